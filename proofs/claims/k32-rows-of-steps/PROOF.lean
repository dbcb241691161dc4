import PyProof.Rows.All
import Wide.All
import OpenK.AllK
import Wide.FinOn
import HandS.ForMost
import HandS.ForExc
import HandS.Deep
import HandS.TupAny
import HandS.IsInst
import HandS.Codes
import HandS.Style
import HandS.Star
import HandS.More
import HandS.SortInts
import HandS.WordsDict
import HandS.Zip
import HandS.WordsExc
import KE.KExcSuper
import HandS.ExcInit
import HandS.TryOnly
import PySem.Challenge.RW_everrows_k32_rows_of_steps
set_option Elab.async false
set_option linter.all false
set_option maxRecDepth 100000
/-! The pure reading of the program's Python: values, state, results; how they stand to the layer's heaps. -/
namespace EV
open PySem PySem.Spec L2

inductive PV where
  | non | bl (b : Bool) | int (i : Int) | str (x : Str)
  | tup (xs : List PV) | lst (xs : List PV)
  | dK (ks : List Key) (vs : List PV)
  | src
  | fn (i : Nat)
structure Src where
  cells : List Int
  left : Int
  mixed : Int
  turn : Int
inductive Res (α : Type) where
  | ok (a : α) | exc (n : Nat) (s : Src) | err
def Res.bind {α β : Type} : Res α → (α → Res β) → Res β
  | .ok a, k => k a
  | .exc n s, _ => .exc n s
  | .err, _ => .err
/-- how a value stands to the frame's own containers: fr a new container; cl none of them in it; own i: the container of slot i itself; di: any -/
inductive Tag where
  | fr | cl | own (i : Nat) | di
abbrev Slot := Option (PV × Bool)
abbrev EnvP := List Slot
abbrev Rv := PV × Tag × Src
abbrev EE := EnvP → Src → Res Rv
inductive Flw where
  | nx | ret (v : PV) | brk | cont
abbrev ES := EnvP → Src → Res (Flw × EnvP × Src)

mutual
def flat : PV → Bool
  | .tup xs => flats xs
  | .lst _ => false
  | .dK _ _ => false
  | _ => true
def flats : List PV → Bool
  | [] => true
  | x :: xs => flat x && flats xs
end

/-- what does not hang on the state: the written part, the defs by number, the exceptions by number -/
structure Gm where
  K : PySem.W.Frag
  fns : Nat → Option Addr
  exc : Nat → Value → Prop

def Fix : HO → Prop
  | .tup _ => True
  | .frz _ _ => True
  | _ => False

mutual
def View (g : Gm) (L : Option (Addr × Addr)) (H : Hp) (B : Addr → Prop) : PV → V → Prop
  | .non, v => v = .non
  | .bl b, v => v = .bl b
  | .int i, v => v = .int i
  | .str x, v => v = .str x ∧ x.length ≤ sizeLine
  | .tup xs, v => ∃ a ys, v = .ref a ∧ SqT g.K H a ys ∧ ys.length ≤ sizeLine ∧ Views g L H B xs ys
  | .lst xs, v => ∃ a ys, v = .ref a ∧ B a ∧ H a = some (.lst ys) ∧ ys.length ≤ sizeLine ∧ Views g L H B xs ys
  | .dK ks vs, v => ∃ a ys, v = .ref a ∧ B a ∧ H a = some (.dK (ks.zip ys)) ∧ ks.length = ys.length ∧ ys.length ≤ sizeLine ∧ Views g L H B vs ys
  | .src, v => ∃ p, L = some p ∧ v = .ref p.1
  | .fn i, v => ∃ a, g.fns i = some a ∧ v = .ref a
def Views (g : Gm) (L : Option (Addr × Addr)) (H : Hp) (B : Addr → Prop) : List PV → List V → Prop
  | [], ys => ys = []
  | x :: xs, ys => ∃ y r, ys = y :: r ∧ View g L H B x y ∧ Views g L H B xs r
end

theorem sqT_keep {K : PySem.W.Frag} {H H' : Hp} {a : Addr} {ys : List V} (hk : ∀ b u, H b = some u → Fix u → H' b = some u) (h : SqT K H a ys) : SqT K H' a ys := by
  rcases h with (h | ⟨o, h⟩) | h
  · exact .inl (.inl (hk _ _ h trivial))
  · exact .inl (.inr ⟨o, hk _ _ h trivial⟩)
  · exact .inr h

section
variable {g : Gm} {L : Option (Addr × Addr)} {H H' : Hp} {B B' : Addr → Prop}
mutual
theorem View.mono (hk : ∀ b u, H b = some u → B b ∨ Fix u → H' b = some u) (hB : ∀ b u, H b = some u → B b → B' b) : ∀ (pv : PV) (v : V), View g L H B pv v → View g L H' B' pv v
  | .non, _, h => h
  | .bl _, _, h => h
  | .int _, _, h => h
  | .str _, _, h => h
  | .src, _, h => h
  | .fn _, _, h => h
  | .tup xs, v, h => by
    obtain ⟨a, ys, e, hs, hl, hv⟩ := h
    exact ⟨a, ys, e, sqT_keep (fun b u q f => hk b u q (.inr f)) hs, hl, Views.mono hk hB xs ys hv⟩
  | .lst xs, v, h => by
    obtain ⟨a, ys, e, hb, hs, hl, hv⟩ := h
    exact ⟨a, ys, e, hB _ _ hs hb, hk _ _ hs (.inl hb), hl, Views.mono hk hB xs ys hv⟩
  | .dK ks vs, v, h => by
    obtain ⟨a, ys, e, hb, hs, hl, hz, hv⟩ := h
    exact ⟨a, ys, e, hB _ _ hs hb, hk _ _ hs (.inl hb), hl, hz, Views.mono hk hB vs ys hv⟩
theorem Views.mono (hk : ∀ b u, H b = some u → B b ∨ Fix u → H' b = some u) (hB : ∀ b u, H b = some u → B b → B' b) : ∀ (xs : List PV) (ys : List V), Views g L H B xs ys → Views g L H' B' xs ys
  | [], _, h => h
  | x :: xs, ys, h => by
    obtain ⟨y, r, e, h1, h2⟩ := h
    exact ⟨y, r, e, View.mono hk hB x y h1, Views.mono hk hB xs r h2⟩
end
theorem Views.length : ∀ {xs : List PV} {ys : List V}, Views g L H B xs ys → xs.length = ys.length
  | [], _, h => by cases (show _ = [] from h); rfl
  | x :: xs, ys, h => by
    obtain ⟨y, r, e, _, h2⟩ := h
    subst e
    simp [Views.length h2]
theorem Views.get : ∀ {xs : List PV} {ys : List V} {i : Nat} {x : PV}, Views g L H B xs ys → xs[i]? = some x → ∃ y, ys[i]? = some y ∧ View g L H B x y
  | [], _, _, _, _, e => by simp at e
  | z :: xs, ys, 0, x, h, e => by
    obtain ⟨y, r, e', h1, _⟩ := h
    subst e'
    obtain rfl : z = x := by simpa using e
    exact ⟨y, rfl, h1⟩
  | z :: xs, ys, i + 1, x, h, e => by
    obtain ⟨y, r, e', _, h2⟩ := h
    subst e'
    exact Views.get (i := i) h2 (by simpa using e)
theorem Views.get' : ∀ {xs : List PV} {ys : List V} {i : Nat} {y : V}, Views g L H B xs ys → ys[i]? = some y → ∃ x, xs[i]? = some x ∧ View g L H B x y
  | [], _, _, _, h, e => by cases (show _ = [] from h); simp at e
  | z :: xs, ys, 0, y', h, e => by
    obtain ⟨y, r, e', h1, _⟩ := h
    subst e'
    obtain rfl : y = y' := by simpa using e
    exact ⟨z, rfl, h1⟩
  | z :: xs, ys, i + 1, y', h, e => by
    obtain ⟨y, r, e', _, h2⟩ := h
    subst e'
    obtain ⟨x, e1, e2⟩ := Views.get' (i := i) h2 (by simpa using e)
    exact ⟨x, by simpa using e1, e2⟩
theorem Views.append : ∀ {xs xs' : List PV} {ys ys' : List V}, Views g L H B xs ys → Views g L H B xs' ys' → Views g L H B (xs ++ xs') (ys ++ ys')
  | [], _, _, _, h, h' => by cases (show _ = [] from h); exact h'
  | x :: xs, _, _, _, h, h' => by
    obtain ⟨y, r, e', h1, h2⟩ := h
    subst e'
    exact ⟨y, _, rfl, h1, Views.append h2 h'⟩
theorem Views.drop : ∀ {xs : List PV} {ys : List V} (n : Nat), Views g L H B xs ys → Views g L H B (xs.drop n) (ys.drop n)
  | _, _, 0, h => h
  | [], _, n + 1, h => by cases (show _ = [] from h); rfl
  | x :: xs, _, n + 1, h => by
    obtain ⟨y, r, e', _, h2⟩ := h
    subst e'
    exact Views.drop n h2
theorem Views.take : ∀ {xs : List PV} {ys : List V} (n : Nat), Views g L H B xs ys → Views g L H B (xs.take n) (ys.take n)
  | _, _, 0, _ => rfl
  | [], _, n + 1, h => by cases (show _ = [] from h); rfl
  | x :: xs, _, n + 1, h => by
    obtain ⟨y, r, e', h1, h2⟩ := h
    subst e'
    exact ⟨y, _, rfl, h1, Views.take n h2⟩
theorem Views.reverse : ∀ {xs : List PV} {ys : List V}, Views g L H B xs ys → Views g L H B xs.reverse ys.reverse
  | [], _, h => by cases (show _ = [] from h); rfl
  | x :: xs, _, h => by
    obtain ⟨y, r, e', h1, h2⟩ := h
    subst e'
    rw [List.reverse_cons, List.reverse_cons]
    exact Views.append (Views.reverse h2) ⟨y, [], rfl, h1, rfl⟩
theorem Views.one {x : PV} {y : V} (h : View g L H B x y) : Views g L H B [x] [y] := ⟨y, [], rfl, h, rfl⟩
theorem Views.inv1 {x : PV} {ys : List V} (h : Views g L H B [x] ys) : ∃ y, ys = [y] ∧ View g L H B x y := by
  obtain ⟨y, r, e, h1, h2⟩ := h
  cases (show r = [] from h2)
  exact ⟨y, e, h1⟩
theorem Views.inv2 {x x' : PV} {ys : List V} (h : Views g L H B [x, x'] ys) : ∃ y y', ys = [y, y'] ∧ View g L H B x y ∧ View g L H B x' y' := by
  obtain ⟨y, r, e, h1, h2⟩ := h
  obtain ⟨y', e', h3⟩ := Views.inv1 h2
  subst e'
  exact ⟨y, y', e, h1, h3⟩
end

/-! a flat value leans on nothing that changes -/
section
variable {g : Gm} {L : Option (Addr × Addr)} {H H' : Hp} {B B' : Addr → Prop}
mutual
theorem View.flat (hk : ∀ b u, H b = some u → Fix u → H' b = some u) : ∀ (pv : PV) (v : V), flat pv = true → View g L H B pv v → View g L H' B' pv v
  | .non, _, _, h => h
  | .bl _, _, _, h => h
  | .int _, _, _, h => h
  | .str _, _, _, h => h
  | .src, _, _, h => h
  | .fn _, _, _, h => h
  | .tup xs, v, f, h => by
    obtain ⟨a, ys, e, hs, hl, hv⟩ := h
    exact ⟨a, ys, e, sqT_keep hk hs, hl, Views.flat hk xs ys (by simpa [EV.flat] using f) hv⟩
  | .lst xs, v, f, h => by simp [EV.flat] at f
  | .dK ks vs, v, f, h => by simp [EV.flat] at f
theorem Views.flat (hk : ∀ b u, H b = some u → Fix u → H' b = some u) : ∀ (xs : List PV) (ys : List V), flats xs = true → Views g L H B xs ys → Views g L H' B' xs ys
  | [], _, _, h => h
  | x :: xs, ys, f, h => by
    obtain ⟨y, r, e, h1, h2⟩ := h
    simp only [flats, Bool.and_eq_true] at f
    exact ⟨y, r, e, View.flat hk x y f.1 h1, Views.flat hk xs r f.2 h2⟩
end
end

/-! ### the law's source of numbers -/
def sCells : Str := Str.ofString "cells"
def sLeft : Str := Str.ofString "left"
def sMixed : Str := Str.ofString "mixed"
def sTurn : Str := Str.ofString "turn"
def SrcAt (L : Option (Addr × Addr)) (H : Hp) (s : Src) : Prop :=
  match L with
  | none => True
  | some (a, c) => a ≠ c ∧ H a = some (.dK [(.inr sCells, .ref c), (.inr sLeft, .int s.left), (.inr sMixed, .int s.mixed), (.inr sTurn, .int s.turn)]) ∧ H c = some (.lst (s.cells.map V.int))
def notSrc (L : Option (Addr × Addr)) (a : Addr) : Prop := ∀ p, L = some p → a ≠ p.1 ∧ a ≠ p.2
/-- all but the source is as it was -/
def Ext (L : Option (Addr × Addr)) (H H' : Hp) : Prop := ∀ b u, H b = some u → notSrc L b → H' b = some u
theorem Ext.refl {L : Option (Addr × Addr)} (H : Hp) : Ext L H H := fun _ _ h _ => h
theorem Ext.trans {L : Option (Addr × Addr)} {H H1 H2 : Hp} (a : Ext L H H1) (b : Ext L H1 H2) : Ext L H H2 := fun c u h n => b c u (a c u h n) n
theorem Ext.upd {L : Option (Addr × Addr)} {H : Hp} {p : Addr} {o : HO} (hp : H p = none) : Ext L H (upd H p o) := fun b u h _ => by
  rw [upd_ne (ne_of_none h hp)]; exact h
theorem SrcAt.some_ne {L : Option (Addr × Addr)} {H : Hp} {s : Src} (h : SrcAt L H s) {a : Addr} (n : H a = none) : notSrc L a := fun p e => by
  subst e
  obtain ⟨q1, q2⟩ := p
  obtain ⟨_, h1, h2⟩ := h
  exact ⟨fun z => (by rw [z] at n; rw [n] at h1; cases h1), fun z => (by rw [z] at n; rw [n] at h2; cases h2)⟩
theorem SrcAt.fix_ne {L : Option (Addr × Addr)} {H : Hp} {s : Src} (h : SrcAt L H s) {a : Addr} {u : HO} (e : H a = some u) (f : Fix u) : notSrc L a := fun p e' => by
  subst e'
  obtain ⟨q1, q2⟩ := p
  obtain ⟨_, h1, h2⟩ := h
  refine ⟨fun z => ?_, fun z => ?_⟩
  · rw [z, h1] at e; cases e; exact f
  · rw [z, h2] at e; cases e; exact f
theorem SrcAt.upd {L : Option (Addr × Addr)} {H : Hp} {s : Src} {p : Addr} {o : HO} (h : SrcAt L H s) (hp : notSrc L p) : SrcAt L (upd H p o) s := by
  cases L with
  | none => trivial
  | some q =>
    obtain ⟨a, c⟩ := q
    obtain ⟨h0, h1, h2⟩ := h
    obtain ⟨n1, n2⟩ := hp _ rfl
    exact ⟨h0, by rw [upd_ne (Ne.symm n1)]; exact h1, by rw [upd_ne (Ne.symm n2)]; exact h2⟩
theorem SrcAt.same {L : Option (Addr × Addr)} {H : Hp} {s s' : Src} (h : SrcAt L H s) (h' : SrcAt L H s') (a : Addr × Addr) (e : L = some a) : s.left = s'.left := by
  subst e
  obtain ⟨q1, q2⟩ := a
  obtain ⟨_, h1, _⟩ := h
  obtain ⟨_, h2, _⟩ := h'
  rw [h1] at h2
  simp at h2
  exact h2.1
theorem Ext.none {L : Option (Addr × Addr)} {H H' : Hp} {s : Src} (x : Ext L H H') (h : SrcAt L H s) (h' : SrcAt L H' s') {a : Addr} (n : H' a = Option.none) : H a = Option.none := by
  cases e : H a with
  | none => rfl
  | some u => rw [x a u e (h'.some_ne n)] at n; cases n

/-! ### a frame, and its state -/
structure Fr where
  g : Gm
  L : Option (Addr × Addr)
  H0 : Hp
  B : Addr → Prop
  Xn : Nat → Hp → Prop
def Bo (F : Fr) (own : Nat → Option Addr) (a : Addr) : Prop := F.B a ∧ ∀ j, own j ≠ some a
/-- a container at its own address -/
def Cont (g : Gm) (L : Option (Addr × Addr)) (H : Hp) (a : Addr) (B : Addr → Prop) : PV → Prop
  | .lst xs => ∃ ys, H a = some (.lst ys) ∧ ys.length ≤ sizeLine ∧ Views g L H B xs ys
  | .dK ks vs => ∃ ys, H a = some (.dK (ks.zip ys)) ∧ ks.length = ys.length ∧ ys.length ≤ sizeLine ∧ Views g L H B vs ys
  | _ => False
structure SR (F : Fr) (own : Nat → Option Addr) (σ : L2.St) (H : Hp) (ρ : EnvP) (s : Src) : Prop where
  keep : ∀ b u, F.H0 b = some u → H b = some u
  src : SrcAt F.L H s
  h0s : ∀ b u, F.H0 b = some u → notSrc F.L b
  bsrc : ∀ a, F.B a → notSrc F.L a
  new : ∀ i a, own i = some a → F.H0 a = none ∧ F.B a
  inj : ∀ i j a, own i = some a → own j = some a → i = j
  fresh : ∀ a, H a = none → F.B a
  len : σ.length = ρ.length
  flag : ∀ (i : Nat) (pv : PV), ρ[i]? = some (some (pv, true)) → ∃ a, own i = some a ∧ σ[i]? = some (some (.ref a)) ∧ Cont F.g F.L H a (Bo F own) pv
  plain : ∀ (i : Nat) (pv : PV), ρ[i]? = some (some (pv, false)) → ∃ v, σ[i]? = some (some v) ∧ View F.g F.L H (Bo F own) pv v
  owned : ∀ i a, own i = some a → ∃ pv, ρ[i]? = some (some (pv, true))
/-- a value by its tag -/
def VT (F : Fr) (own : Nat → Option Addr) (H0 H' : Hp) (tg : Tag) (pv : PV) (v : V) : Prop :=
  match tg with
  | .fr => ∃ p, v = .ref p ∧ H0 p = none ∧ Cont F.g F.L H' p (fun a => Bo F own a ∧ a ≠ p) pv
  | .cl => View F.g F.L H' (Bo F own) pv v
  | .own i => ∃ a, own i = some a ∧ v = .ref a ∧ Cont F.g F.L H' a (Bo F own) pv
  | .di => View F.g F.L H' F.B pv v
def Out (F : Fr) (own : Nat → Option Addr) (H : Hp) (r : Res Rv) (Q : VK) : Prop :=
  match r with
  | .ok (pv, tg, s') => ∀ H' v, Ext F.L H H' → SrcAt F.L H' s' → VT F own H H' tg pv v → Q v H'
  | .exc n s' => ∀ H', Ext F.L H H' → SrcAt F.L H' s' → F.Xn n H'
  | .err => False
def TEx (F : Fr) (f : EE) : TE := fun σ H Q => ∃ ρ s own, SR F own σ H ρ s ∧ Out F own H (f ρ s) Q
def PX (X : Cx) (F : Fr) (e : Expr) (f : EE) : Prop := PE X e (TEx F f)

theorem PE.imp {X : Cx} {e : Expr} {t t' : TE} (h : PE X e t) (i : ∀ σ H Q, t' σ H Q → t σ H Q) : PE X e t' := ⟨fun pins s σ H Q I q => h.run pins s σ H Q I (i σ H Q q)⟩

section
variable {F : Fr} {own : Nat → Option Addr} {σ : L2.St} {H H0 H1 H2 H' : Hp} {ρ : EnvP} {s s1 : Src} {Q Q' : VK}
theorem SR.ownAt (S : SR F own σ H ρ s) {i : Nat} {a : Addr} (e : own i = some a) : ∃ u, H a = some u ∧ ¬ Fix u := by
  obtain ⟨pv, h⟩ := S.owned i a e
  obtain ⟨a', e', _, c⟩ := S.flag i pv h
  rw [e] at e'; cases e'
  cases pv <;> first | exact False.elim c | skip
  · obtain ⟨ys, h, _⟩ := c; exact ⟨_, h, id⟩
  · obtain ⟨ys, h, _⟩ := c; exact ⟨_, h, id⟩
theorem SR.notOwn (S : SR F own σ H ρ s) {p : Addr} (n : H p = none) : ∀ j, own j ≠ some p := fun j e => by
  obtain ⟨u, h, _⟩ := S.ownAt e
  rw [n] at h; cases h
theorem SR.bo (S : SR F own σ H ρ s) {p : Addr} (n : H p = none) : Bo F own p := ⟨S.fresh p n, S.notOwn n⟩
theorem Ext.keepB (x : Ext F.L H H') (S : SR F own σ H ρ s) : ∀ b u, H b = some u → F.B b ∨ Fix u → H' b = some u := fun b u e q => by
  rcases q with q | q
  · exact x b u e (S.bsrc b q)
  · exact x b u e (S.src.fix_ne e q)
theorem Ext.keeps (x : Ext F.L H H') (S : SR F own σ H ρ s) : ∀ b u, H b = some u → Bo F own b ∨ Fix u → H' b = some u := fun b u e q => x.keepB S b u e (q.imp (·.1) id)
theorem Cont.mono {g : Gm} {L : Option (Addr × Addr)} {B B' : Addr → Prop} {a : Addr} {pv : PV} (hk : ∀ b u, H b = some u → B b ∨ Fix u → H' b = some u) (hB : ∀ b u, H b = some u → B b → B' b) (ha : ∀ u, H a = some u → H' a = some u) (c : Cont g L H a B pv) : Cont g L H' a B' pv := by
  cases pv <;> first | exact False.elim c | skip
  · obtain ⟨ys, h, l, v⟩ := c; exact ⟨ys, ha _ h, l, v.mono hk hB⟩
  · obtain ⟨ys, h, l, z, v⟩ := c; exact ⟨ys, ha _ h, l, z, v.mono hk hB⟩
theorem Cont.view {g : Gm} {L : Option (Addr × Addr)} {B : Addr → Prop} {a : Addr} {pv : PV} (c : Cont g L H a B pv) (hb : B a) : View g L H B pv (.ref a) := by
  cases pv <;> first | exact False.elim c | skip
  · obtain ⟨ys, h, l, v⟩ := c; exact ⟨a, ys, rfl, hb, h, l, v⟩
  · obtain ⟨ys, h, l, z, v⟩ := c; exact ⟨a, ys, rfl, hb, h, l, z, v⟩
/-- the state behind a step that leaves all but the source as it was -/
theorem SR.ext (S : SR F own σ H ρ s) (x : Ext F.L H H1) (h1 : SrcAt F.L H1 s1) : SR F own σ H1 ρ s1 where
  keep := fun b u e => x b u (S.keep b u e) (S.h0s b u e)
  src := h1
  h0s := S.h0s
  bsrc := S.bsrc
  new := S.new
  inj := S.inj
  fresh := fun a n => S.fresh a (x.none S.src h1 n)
  len := S.len
  flag := fun i pv h => by
    obtain ⟨a, e, e2, c⟩ := S.flag i pv h
    exact ⟨a, e, e2, c.mono (x.keeps S) (fun _ _ _ q => q) fun u q => x a u q (S.bsrc a (S.new i a e).2)⟩
  plain := fun i pv h => by
    obtain ⟨v, e, c⟩ := S.plain i pv h
    exact ⟨v, e, c.mono (x.keeps S) (fun _ _ _ q => q)⟩
  owned := S.owned
/-- a value as it may be read -/
theorem VT.cl (S : SR F own σ H0 ρ s) {tg : Tag} {pv : PV} {v : V} (h : VT F own H0 H1 tg pv v) (ht : tg = .fr ∨ tg = .cl) : View F.g F.L H1 (Bo F own) pv v := by
  rcases ht with rfl | rfl
  · obtain ⟨p, rfl, n, c⟩ := h
    exact (c.mono (H' := H1) (B' := Bo F own) (fun b u e q => e) (fun b u e q => q.1) fun u e => e).view (S.bo n)
  · exact h
theorem VT.view (S : SR F own σ H0 ρ s) {tg : Tag} {pv : PV} {v : V} (h : VT F own H0 H1 tg pv v) : View F.g F.L H1 F.B pv v := by
  cases tg with
  | fr => exact (VT.cl S h (.inl rfl)).mono (fun b u e q => e) fun b u e q => q.1
  | cl => exact View.mono (fun b u e q => e) (fun b u e q => q.1) _ _ h
  | own i =>
    obtain ⟨a, e, rfl, c⟩ := h
    exact (c.mono (H' := H1) (B' := F.B) (fun b u e q => e) (fun b u e q => q.1) fun u e => e).view (S.new i a e).2
  | di => exact h
theorem VT.flat (S : SR F own σ H0 ρ s) {tg : Tag} {pv : PV} {v : V} (h : VT F own H0 H1 tg pv v) (f : flat pv = true) : View F.g F.L H1 (Bo F own) pv v := View.flat (fun b u e _ => e) pv v f (VT.view S h)
/-- it stays -/
theorem VT.ext (S : SR F own σ H0 ρ s) (S1 : SR F own σ H1 ρ s1) {tg : Tag} {pv : PV} {v : V} (h : VT F own H0 H1 tg pv v) (x : Ext F.L H1 H2) : VT F own H0 H2 tg pv v := by
  cases tg with
  | fr =>
    obtain ⟨p, e, n, c⟩ := h
    refine ⟨p, e, n, c.mono (fun b u e q => ?_) (fun b u e q => q) fun u e => x p u e (S.bsrc p (S.fresh p n))⟩
    exact x.keepB S1 b u e (q.imp (fun z => z.1.1) id)
  | cl => exact View.mono (x.keeps S1) (fun _ _ _ q => q) _ _ h
  | own i =>
    obtain ⟨a, e, e2, c⟩ := h
    exact ⟨a, e, e2, c.mono (x.keeps S1) (fun _ _ _ q => q) fun u q => x a u q (S1.bsrc a (S1.new i a e).2)⟩
  | di => exact View.mono (x.keepB S1) (fun _ _ _ q => q) _ _ h
/-- read from an earlier beginning -/
theorem VT.back (S : SR F own σ H0 ρ s) (S1 : SR F own σ H1 ρ s1) (x : Ext F.L H0 H1) {tg : Tag} {pv : PV} {v : V} (h : VT F own H1 H2 tg pv v) : VT F own H0 H2 tg pv v := by
  cases tg with
  | fr =>
    obtain ⟨p, e, n, c⟩ := h
    exact ⟨p, e, x.none S.src S1.src n, c⟩
  | cl => exact h
  | own i => exact h
  | di => exact h
theorem Out.mono {r : Res Rv} (h : Out F own H r Q) (hq : ∀ v H', Q v H' → Q' v H') : Out F own H r Q' := by
  cases r with
  | ok p => exact fun H' v a b c => hq v H' (h H' v a b c)
  | exc n s' => exact h
  | err => exact h
theorem Out.back (S : SR F own σ H ρ s) (S1 : SR F own σ H1 ρ s1) (x : Ext F.L H H1) {r : Res Rv} (h : Out F own H r Q) : Out F own H1 r Q := by
  cases r with
  | ok p => exact fun H' v a b c => h H' v (x.trans a) b (VT.back S S1 x c)
  | exc n s' => exact fun H' a b => h H' (x.trans a) b
  | err => exact h
/-- THE STEP: the first part of a reading, then the rest -/
theorem TEx.step {a : EE} {k : Rv → Res Rv} (S : SR F own σ H ρ s) (h : Out F own H ((a ρ s).bind k) Q) :
    TEx F a σ H (fun v H1 => ∃ pv tg s1, a ρ s = .ok (pv, tg, s1) ∧ SR F own σ H1 ρ s1 ∧ VT F own H H1 tg pv v ∧ Ext F.L H H1 ∧ Out F own H1 (k (pv, tg, s1)) Q) := by
  refine ⟨ρ, s, own, S, ?_⟩
  cases e : a ρ s with
  | ok p =>
    obtain ⟨pv, tg, s1⟩ := p
    intro H1 v x sa vt
    have S1 := S.ext x sa
    rw [e] at h
    exact ⟨pv, tg, s1, rfl, S1, vt, x, Out.back S S1 x h⟩
  | exc n s' => rw [e] at h; exact h
  | err => rw [e] at h; exact h
theorem TEx.last {a : EE} (S : SR F own σ H ρ s) (h : Out F own H (a ρ s) Q) : TEx F a σ H Q := ⟨ρ, s, own, S, h⟩
end
end EV
set_option Elab.async false
set_option linter.all false
set_option maxRecDepth 100000
/-! The pure reading of expressions. -/
namespace EV
open PySem PySem.Spec L2

/-! ### argument lists -/
abbrev EEs := EnvP → Src → Res (List (PV × Tag) × Src)
def E.nil : EEs := fun _ s => .ok ([], s)
def E.cons (f : EE) (r : EEs) : EEs := fun ρ s => (f ρ s).bind fun p => (r ρ p.2.2).bind fun q => .ok ((p.1, p.2.1) :: q.1, q.2)
def VTs (F : Fr) (own : Nat → Option Addr) (H0 H' : Hp) : List (PV × Tag) → List V → Prop
  | [], vs => vs = []
  | p :: ps, vs => ∃ v r, vs = v :: r ∧ VT F own H0 H' p.2 p.1 v ∧ VTs F own H0 H' ps r
def OutA (F : Fr) (own : Nat → Option Addr) (H : Hp) (r : Res (List (PV × Tag) × Src)) (Q : List V → Hp → Prop) : Prop :=
  match r with
  | .ok (xs, s') => ∀ H' vs, Ext F.L H H' → SrcAt F.L H' s' → VTs F own H H' xs vs → Q vs H'
  | .exc n s' => ∀ H', Ext F.L H H' → SrcAt F.L H' s' → F.Xn n H'
  | .err => False
def TAx (F : Fr) (f : EEs) : TA := fun σ H Q => ∃ ρ s own, SR F own σ H ρ s ∧ OutA F own H (f ρ s) Q
def PXs (X : Cx) (F : Fr) (es : List Expr) (f : EEs) : Prop := PA X es (TAx F f)
theorem PA.imp {X : Cx} {e : List Expr} {t t' : TA} (h : PA X e t) (i : ∀ σ H Q, t' σ H Q → t σ H Q) : PA X e t' := ⟨fun pos pins s σ H Q I q => h.run pos pins s σ H Q I (i σ H Q q)⟩
theorem PT.imp {X : Cx} {e : Expr} {t t' : TT} (h : PT X e t) (i : ∀ σ H Q, t' σ H Q → t σ H Q) : PT X e t' := ⟨fun pins s σ H Q I q => h.run pins s σ H Q I (i σ H Q q)⟩
theorem PW.imp {X : Cx} {e : Expr} {t t' : TT} (h : PW X e t) (i : ∀ σ H Q, t' σ H Q → t σ H Q) : PW X e t' := ⟨fun whole pins s σ H Q I q => h.run whole pins s σ H Q I (i σ H Q q)⟩

section
variable {F : Fr} {own : Nat → Option Addr} {σ : L2.St} {H H0 H1 H2 H' : Hp} {ρ : EnvP} {s s1 : Src} {Q Q' : VK}
theorem VTs.back (S : SR F own σ H0 ρ s) (S1 : SR F own σ H1 ρ s1) (x : Ext F.L H0 H1) : ∀ {ps : List (PV × Tag)} {vs : List V}, VTs F own H1 H2 ps vs → VTs F own H0 H2 ps vs
  | [], _, h => h
  | _ :: _, _, h => by
    obtain ⟨v, r, e, h1, h2⟩ := h
    exact ⟨v, r, e, VT.back S S1 x h1, VTs.back S S1 x h2⟩
theorem OutA.back (S : SR F own σ H ρ s) (S1 : SR F own σ H1 ρ s1) (x : Ext F.L H H1) {r : Res (List (PV × Tag) × Src)} {Q : List V → Hp → Prop} (h : OutA F own H r Q) : OutA F own H1 r Q := by
  cases r with
  | ok p => exact fun H' v a b c => h H' v (x.trans a) b (VTs.back S S1 x c)
  | exc n s' => exact fun H' a b => h H' (x.trans a) b
  | err => exact h
theorem TAx.nil (S : SR F own σ H ρ s) {Q : List V → Hp → Prop} (h : OutA F own H (E.nil ρ s) Q) : Q [] H := h H [] (.refl _) S.src rfl
theorem VTs.views (S : SR F own σ H0 ρ s) : ∀ {ps : List (PV × Tag)} {vs : List V}, VTs F own H0 H1 ps vs → Views F.g F.L H1 F.B (ps.map (·.1)) vs
  | [], _, h => h
  | _ :: _, _, h => by
    obtain ⟨v, r, e, h1, h2⟩ := h
    exact ⟨v, r, e, VT.view S h1, VTs.views S h2⟩
end
def Tag.clean : Tag → Bool
  | .fr => true
  | .cl => true
  | _ => false
theorem Tag.clean_cases {t : Tag} (h : t.clean = true) : t = .fr ∨ t = .cl := by cases t <;> simp_all [Tag.clean]
section
variable {F : Fr} {own : Nat → Option Addr} {σ : L2.St} {H H0 H1 H2 H' : Hp} {ρ : EnvP} {s s1 : Src} {Q Q' : VK}
theorem VTs.cl (S : SR F own σ H0 ρ s) : ∀ {ps : List (PV × Tag)} {vs : List V}, ps.all (fun p => p.2.clean) = true → VTs F own H0 H1 ps vs → Views F.g F.L H1 (Bo F own) (ps.map (·.1)) vs
  | [], _, _, h => h
  | p :: ps, _, c, h => by
    obtain ⟨v, r, e, h1, h2⟩ := h
    simp only [List.all_cons, Bool.and_eq_true] at c
    exact ⟨v, r, e, VT.cl S h1 (Tag.clean_cases c.1), VTs.cl S c.2 h2⟩
theorem VTs.flat (S : SR F own σ H0 ρ s) {B : Addr → Prop} {ps : List (PV × Tag)} {vs : List V} (f : flats (ps.map (·.1)) = true) (h : VTs F own H0 H1 ps vs) : Views F.g F.L H1 B (ps.map (·.1)) vs :=
  Views.flat (fun b u e _ => e) _ _ f (VTs.views S h)
theorem VTs.inv1 {p : PV × Tag} {vs : List V} (h : VTs F own H0 H1 [p] vs) : ∃ v, vs = [v] ∧ VT F own H0 H1 p.2 p.1 v := by
  obtain ⟨v, r, e, h1, h2⟩ := h
  cases (show r = [] from h2)
  exact ⟨v, e, h1⟩
theorem VTs.inv2 {p q : PV × Tag} {vs : List V} (h : VTs F own H0 H1 [p, q] vs) : ∃ v v', vs = [v, v'] ∧ VT F own H0 H1 p.2 p.1 v ∧ VT F own H0 H1 q.2 q.1 v' := by
  obtain ⟨v, r, e, h1, h2⟩ := h
  obtain ⟨v', e', h3⟩ := VTs.inv1 h2
  subst e'
  exact ⟨v, v', e, h1, h3⟩
end

section
variable {X : Cx} {F : Fr} {a b e : Expr} {es : List Expr} {fa fb : EE} {fs : EEs} {pos : Pos}
theorem pxs_nil : PXs X F [] E.nil := PA.imp pa_nil fun σ H Q ⟨ρ, s, own, S, h⟩ => TAx.nil S h
theorem pxs_cons (ha : PX X F e fa) (hr : PXs X F es fs) (hs : starEach (e :: es) X.env = (false, eval e X.env) :: starEach es X.env := by rfl) : PXs X F (e :: es) (E.cons fa fs) := by
  refine PA.imp (pa_cons ha hr hs) fun σ H Q ⟨ρ, s, own, S, h⟩ => ?_
  unfold E.cons at h
  refine ⟨ρ, s, own, S, ?_⟩
  cases e1 : fa ρ s with
  | exc n s' => rw [e1] at h; exact h
  | err => rw [e1] at h; exact h
  | ok p =>
    obtain ⟨pv, tg, s1⟩ := p
    rw [e1] at h
    intro H1 v x1 sa1 vt1
    have S1 := S.ext x1 sa1
    refine ⟨ρ, s1, own, S1, ?_⟩
    simp only [Res.bind] at h
    cases e2 : fs ρ s1 with
    | exc n s' =>
      rw [e2] at h
      exact fun H' x y => h H' (x1.trans x) y
    | err => rw [e2] at h; exact h
    | ok q =>
      obtain ⟨ys, s2⟩ := q
      rw [e2] at h
      intro H2 vs x2 sa2 vt2
      exact h H2 (v :: vs) (x1.trans x2) sa2 ⟨v, vs, rfl, VT.ext S S1 vt1 x2, VTs.back S S1 x1 vt2⟩

/-! ### names, constants -/
def E.var (i : Nat) : EE := fun ρ s =>
  match ρ[i]? with
  | some (some (pv, true)) => .ok (pv, .own i, s)
  | some (some (pv, false)) => .ok (pv, .cl, s)
  | _ => .err
def E.cst (pv : PV) : EE := fun _ s => .ok (pv, .cl, s)
theorem px_var (i : Nat) {x : Str} (hN : X.N[i]? = some x := by rfl) (hv : Vis X.env.scope x := by first | exact Or.inl rfl | exact Or.inr (Or.inl rfl) | exact Or.inr (Or.inr rfl)) (hd : (x == ("__debug__" : Str)) = false := by decide)
    (hcd : (x == ("__classdict__" : Str)) = false := by decide) : PX X F (.Name x pos) (E.var i) := by
  refine PE.imp (pv i hN hv hd hcd) fun σ H Q ⟨ρ, s, own, S, h⟩ => ?_
  unfold E.var at h
  split at h
  · rename_i pv e
    obtain ⟨a, e1, e2, c⟩ := S.flag i pv e
    exact ⟨_, e2, h H _ (.refl _) S.src ⟨a, e1, rfl, c⟩⟩
  · rename_i pv e
    obtain ⟨v, e2, c⟩ := S.plain i pv e
    exact ⟨_, e2, h H _ (.refl _) S.src c⟩
  · exact h.elim
theorem px_tc {v : V} {z : PV} (h : PE X e (tC v)) (hv : ∀ H B, View F.g F.L H B z v) : PX X F e (E.cst z) :=
  PE.imp h fun σ H Q ⟨ρ, s, own, S, q⟩ => q H v (.refl _) S.src (hv H _)
theorem px_int {i : Int} {j : Nat} : PX X F (.Constant (.int i) j pos) (E.cst (.int i)) := px_tc pe_int fun _ _ => rfl
theorem px_bl {b : Bool} {j : Nat} : PX X F (.Constant (.bool b) j pos) (E.cst (.bl b)) := px_tc pe_bl fun _ _ => rfl
theorem px_non {j : Nat} : PX X F (.Constant .none j pos) (E.cst .non) := px_tc pe_non fun _ _ => rfl
theorem px_str {x : Str} {j : Nat} (hl : x.length ≤ sizeLine := by decide) : PX X F (.Constant (.str x) j pos) (E.cst (.str x)) := px_tc pe_str fun _ _ => ⟨rfl, hl⟩
theorem px_globInt {x : Str} {i : Int} {t : Tok} (hm : X.mg x = some (.int i t)) (hg : Gl X x := by rfl) (hd : (x == ("__debug__" : Str)) = false := by decide) : PX X F (.Name x pos) (E.cst (.int i)) := px_tc (pe_glob (v := .int i) hg hm ⟨_, rfl⟩ hd) fun _ _ => rfl
theorem px_globStr {x y : Str} {t : Tok} (hm : X.mg x = some (.str y t)) (hl : y.length ≤ sizeLine := by decide) (hg : Gl X x := by rfl) (hd : (x == ("__debug__" : Str)) = false := by decide) : PX X F (.Name x pos) (E.cst (.str y)) := px_tc (pe_glob (v := .str y) hg hm ⟨_, rfl⟩ hd) fun _ _ => ⟨rfl, hl⟩

/-! ### operations on two values -/
def OpSem (F : Fr) (r : R2) (f : PV → Tag → PV → Tag → Option (PV × Tag)) : Prop :=
  ∀ (own : Nat → Option Addr) (σ : L2.St) (ρ : EnvP) (s0 s : Src) (H0 H : Hp) (v1 v2 : V) (x : PV) (tx : Tag) (y : PV) (ty : Tag) (z : PV) (t : Tag) (Q : VK), SR F own σ H0 ρ s0 → Ext F.L H0 H → SR F own σ H ρ s → VT F own H0 H tx x v1 → VT F own H0 H ty y v2 → f x tx y ty = some (z, t) →
    (∀ H' v, Ext F.L H H' → SrcAt F.L H' s → VT F own H H' t z v → Q v H') → r v1 v2 H Q
def E.bin (f : PV → Tag → PV → Tag → Option (PV × Tag)) (a b : EE) : EE := fun ρ s =>
  (a ρ s).bind fun p => (b ρ p.2.2).bind fun q => match f p.1 p.2.1 q.1 q.2.1 with
    | some z => .ok (z.1, z.2, q.2.2)
    | none => .err
theorem two_step {r : R2} {f : PV → Tag → PV → Tag → Option (PV × Tag)} (hr : OpSem F r f) {σ : L2.St} {H : Hp} {Q : VK} (h : TEx F (E.bin f fa fb) σ H Q) : tOp r (TEx F fa) (TEx F fb) σ H Q := by
  obtain ⟨ρ, s, own, S, h⟩ := h
  unfold E.bin at h
  obtain ⟨ρ1, s0, own1, S0, h0⟩ := TEx.step S h
  refine ⟨ρ1, s0, own1, S0, h0.mono fun v1 H1 ⟨x, tx, s1, e1, S1, vt1, x1, h1⟩ => ?_⟩
  obtain ⟨ρ2, s2, own2, S2, h2⟩ := TEx.step S1 h1
  refine ⟨ρ2, s2, own2, S2, h2.mono fun v2 H2 ⟨y, ty, s3, e2, S3, vt2, x2, h3⟩ => ?_⟩
  dsimp only at h3
  cases ef : f x tx y ty with
  | none => rw [ef] at h3; exact h3.elim
  | some z =>
    obtain ⟨z, t⟩ := z
    rw [ef] at h3
    exact hr own σ ρ s s3 H H2 v1 v2 x tx y ty z t Q S (x1.trans x2) S3 (VT.ext S S1 vt1 x2) (VT.back S S1 x1 vt2) ef h3
theorem px_bin {op : Operator} {r : R2} {f : PV → Tag → PV → Tag → Option (PV × Tag)} (ho : OpR X (binaryOp op) r) (hr : OpSem F r f) (ha : PX X F a fa) (hb : PX X F b fb) : PX X F (.BinOp a op b pos) (E.bin f fa fb) :=
  PE.imp (pe_op ho ha hb) fun _ _ _ h => two_step hr h
theorem px_cmp {op : CmpOp} {r : R2} {f : PV → Tag → PV → Tag → Option (PV × Tag)} (ho : OpR X (compareOp op) r) (hr : OpSem F r f) (ha : PX X F a fa) (hb : PX X F b fb) (hm : behindInMarks op b = false := by first | exact nomark _ | rfl) : PX X F (.Compare a [op] [b] pos) (E.bin f fa fb) :=
  PE.imp (pe_cmpR ho ha hb hm) fun _ _ _ h => two_step hr h
theorem px_ix {r : R2} {f : PV → Tag → PV → Tag → Option (PV × Tag)} (ho : IxR X r) (hr : OpSem F r f) (ha : PX X F a fa) (hb : PX X F b fb) (hs : PlainIx b := by exact fun _ _ => rfl) : PX X F (.Subscript a b pos) (E.bin f fa fb) :=
  PE.imp (pe_ix ho ha hb hs) fun _ _ _ h => two_step hr h
end
end EV
set_option Elab.async false
set_option linter.all false
set_option maxRecDepth 100000
/-! The pure reading of operations: +, -, *, //, %, comparisons, in, subscripts, slices. -/
namespace EV
open PySem PySem.Spec L2

/-! ### data -/
mutual
def toD : PV → PyData
  | .non => .none
  | .bl b => .bool b
  | .int i => .int i
  | .str x => .str x
  | .tup xs => .tuple (toDs xs)
  | .lst xs => .list (toDs xs)
  | _ => .dict []
def toDs : List PV → List PyData
  | [] => []
  | x :: xs => toD x :: toDs xs
end
section
variable {g : Gm} {L : Option (Addr × Addr)} {H : Hp} {B : Addr → Prop}
mutual
theorem View.dp : ∀ (pv : PV) (v : V), (toD pv).canLay0 = true → View g L H B pv v → Dp g.K H v (toD pv)
  | .non, _, _, h => by cases (show _ = V.non from h); exact .non
  | .bl b, _, _, h => by cases (show _ = V.bl b from h); exact .bl b
  | .int b, _, _, h => by cases (show _ = V.int b from h); exact .int b
  | .str b, _, _, h => by cases h.1; exact .str b
  | .tup xs, _, c, h => by
    obtain ⟨a, ys, e, hs, hl, hv⟩ := h
    subst e
    exact .tup hs (Views.dp xs ys (by simpa [toD, PyData.canLay0] using c) hv)
  | .lst xs, _, c, h => by
    obtain ⟨a, ys, e, hb, hs, hl, hv⟩ := h
    subst e
    exact .lst (SqL.of hs) (Views.dp xs ys (by simpa [toD, PyData.canLay0] using c) hv)
  | .dK ks vs, _, c, h => by simp [toD, PyData.canLay0] at c
  | .src, _, c, h => by simp [toD, PyData.canLay0] at c
  | .fn _, _, c, h => by simp [toD, PyData.canLay0] at c
theorem Views.dp : ∀ (xs : List PV) (ys : List V), PyData.canLayAll0 (toDs xs) = true → Views g L H B xs ys → DpAll g.K H ys (toDs xs)
  | [], _, _, h => by cases (show _ = [] from h); exact .nil
  | x :: xs, _, c, h => by
    obtain ⟨y, r, e, h1, h2⟩ := h
    subst e
    simp only [toDs, PyData.canLayAll0, Bool.and_eq_true] at c
    exact .cons (View.dp x y c.1 h1) (Views.dp xs r c.2 h2)
end
end
def shP (x : PV) : Bool := SeqAt.shaped (toD x)
theorem shP.dp {g : Gm} {L : Option (Addr × Addr)} {H : Hp} {B : Addr → Prop} {x : PV} {v : V} (s : shP x = true) (h : View g L H B x v) : Dp g.K H v (toD x) := View.dp x v (SeqAt.canLay_of_shaped s) h

/-! ### the ends of an operation -/
section
variable {F : Fr} {own : Nat → Option Addr} {σ : L2.St} {H H0 : Hp} {ρ : EnvP} {s : Src} {Q : VK}
/-- a value that needs no object -/
theorem done_flat (S : SR F own σ H ρ s) {z : PV} {v : V} (h : ∀ H' v, Ext F.L H H' → SrcAt F.L H' s → VT F own H H' .cl z v → Q v H') (hv : View F.g F.L H (Bo F own) z v) : Q v H := h H v (.refl _) S.src hv
theorem done_tup (S : SR F own σ H ρ s) {zs : List PV} {ys : List V} (h : ∀ H' v, Ext F.L H H' → SrcAt F.L H' s → VT F own H H' .cl (.tup zs) v → Q v H') (hl : ys.length ≤ sizeLine) (hv : Views F.g F.L H (Bo F own) zs ys) :
    ∀ p, H p = none → Q (.ref p) (upd H p (.tup ys)) := fun p n => by
  have x : Ext F.L H (upd H p (.tup ys)) := .upd n
  exact h _ _ x (S.src.upd (S.src.some_ne n)) ⟨p, ys, rfl, SqT.of upd_same, hl, hv.mono (x.keeps S) fun _ _ _ q => q⟩
theorem done_tupD (S : SR F own σ H ρ s) {zs : List PV} {ys : List V} (h : ∀ H' v, Ext F.L H H' → SrcAt F.L H' s → VT F own H H' .di (.tup zs) v → Q v H') (hl : ys.length ≤ sizeLine) (hv : Views F.g F.L H F.B zs ys) :
    ∀ p, H p = none → Q (.ref p) (upd H p (.tup ys)) := fun p n => by
  have x : Ext F.L H (upd H p (.tup ys)) := .upd n
  exact h _ _ x (S.src.upd (S.src.some_ne n)) ⟨p, ys, rfl, SqT.of upd_same, hl, hv.mono (x.keepB S) fun _ _ _ q => q⟩
theorem done_lst (S : SR F own σ H ρ s) {zs : List PV} {ys : List V} (h : ∀ H' v, Ext F.L H H' → SrcAt F.L H' s → VT F own H H' .fr (.lst zs) v → Q v H') (hl : ys.length ≤ sizeLine) (hv : Views F.g F.L H (Bo F own) zs ys) :
    ∀ p, H p = none → Q (.ref p) (upd H p (.lst ys)) := fun p n => by
  have x : Ext F.L H (upd H p (.lst ys)) := .upd n
  exact h _ _ x (S.src.upd (S.src.some_ne n)) ⟨p, rfl, n, ys, upd_same, hl, hv.mono (x.keeps S) fun b u e q => ⟨q, ne_of_none e n⟩⟩
theorem done_dK (S : SR F own σ H ρ s) {ks : List Key} {zs : List PV} {ys : List V} (h : ∀ H' v, Ext F.L H H' → SrcAt F.L H' s → VT F own H H' .fr (.dK ks zs) v → Q v H') (hk : ks.length = ys.length) (hl : ys.length ≤ sizeLine) (hv : Views F.g F.L H (Bo F own) zs ys) :
    ∀ p, H p = none → Q (.ref p) (upd H p (.dK (ks.zip ys))) := fun p n => by
  have x : Ext F.L H (upd H p (.dK (ks.zip ys))) := .upd n
  exact h _ _ x (S.src.upd (S.src.some_ne n)) ⟨p, rfl, n, ys, upd_same, hk, hl, hv.mono (x.keeps S) fun b u e q => ⟨q, ne_of_none e n⟩⟩
/-- the items of a list or tuple -/
theorem VT.items (S : SR F own σ H0 ρ s) {tg : Tag} {x : PV} {xs : List PV} {v : V} (h : VT F own H0 H tg x v) (hx : x = .tup xs ∨ x = .lst xs) (ht : tg ≠ .di) :
    ∃ a ys, v = .ref a ∧ (SqT F.g.K H a ys ∨ H a = some (.lst ys)) ∧ (x = .tup xs → SqT F.g.K H a ys) ∧ (x = .lst xs → H a = some (.lst ys)) ∧ ys.length ≤ sizeLine ∧ Views F.g F.L H (Bo F own) xs ys := by
  have hc : tg = .fr ∨ tg = .cl → _ := VT.cl S h
  rcases hx with rfl | rfl
  · have hv : View F.g F.L H (Bo F own) (.tup xs) v := by
      cases tg with
      | fr => exact hc (.inl rfl)
      | cl => exact hc (.inr rfl)
      | own i => obtain ⟨a, _, _, c⟩ := h; exact c.elim
      | di => exact absurd rfl ht
    obtain ⟨a, ys, e, hs, hl, hv⟩ := hv
    exact ⟨a, ys, e, .inl hs, fun _ => hs, (fun q => nomatch q), hl, hv⟩
  · cases tg with
    | fr =>
      obtain ⟨a, ys, e, _, hs, hl, hv⟩ := hc (.inl rfl)
      exact ⟨a, ys, e, .inr hs, (fun q => nomatch q), fun _ => hs, hl, hv⟩
    | cl =>
      obtain ⟨a, ys, e, _, hs, hl, hv⟩ := hc (.inr rfl)
      exact ⟨a, ys, e, .inr hs, (fun q => nomatch q), fun _ => hs, hl, hv⟩
    | own i =>
      obtain ⟨a, _, e, ys, hs, hl, hv⟩ := h
      exact ⟨a, ys, e, .inr hs, (fun q => nomatch q), fun _ => hs, hl, hv⟩
    | di => exact absurd rfl ht
theorem VT.dict (S : SR F own σ H0 ρ s) {tg : Tag} {ks : List Key} {xs : List PV} {v : V} (h : VT F own H0 H tg (.dK ks xs) v) (ht : tg ≠ .di) :
    ∃ a ys, v = .ref a ∧ H a = some (.dK (ks.zip ys)) ∧ ks.length = ys.length ∧ Views F.g F.L H (Bo F own) xs ys := by
  have hc : tg = .fr ∨ tg = .cl → _ := VT.cl S h
  cases tg with
  | fr => obtain ⟨a, ys, e, _, hs, hl, _, hv⟩ := hc (.inl rfl); exact ⟨a, ys, e, hs, hl, hv⟩
  | cl => obtain ⟨a, ys, e, _, hs, hl, _, hv⟩ := hc (.inr rfl); exact ⟨a, ys, e, hs, hl, hv⟩
  | own i => obtain ⟨a, _, e, ys, hs, hl, _, hv⟩ := h; exact ⟨a, ys, e, hs, hl, hv⟩
  | di => exact absurd rfl ht
theorem VT.itemsB (S : SR F own σ H0 ρ s) {tg : Tag} {x : PV} {xs : List PV} {v : V} (h : VT F own H0 H tg x v) (hx : x = .tup xs ∨ x = .lst xs) :
    ∃ a ys, v = .ref a ∧ (x = .tup xs → SqT F.g.K H a ys) ∧ (x = .lst xs → H a = some (.lst ys)) ∧ ys.length ≤ sizeLine ∧ Views F.g F.L H F.B xs ys := by
  have hv := VT.view S h
  rcases hx with rfl | rfl
  · obtain ⟨a, ys, e, hs, hl, hv⟩ := hv
    exact ⟨a, ys, e, fun _ => hs, (fun q => nomatch q), hl, hv⟩
  · obtain ⟨a, ys, e, _, hs, hl, hv⟩ := hv
    exact ⟨a, ys, e, (fun q => nomatch q), fun _ => hs, hl, hv⟩
end
def Tag.item : Tag → Tag
  | .di => .di
  | _ => .cl

/-! ### arithmetic -/
def addF : PV → Tag → PV → Tag → Option (PV × Tag)
  | .int i, _, .int j, _ => some (.int (i + j), .cl)
  | .str x, _, .str y, _ => if x.length + y.length ≤ sizeLine then some (.str (x ++ y), .cl) else none
  | .tup xs, .cl, .tup ys, .cl => if xs.length + ys.length ≤ sizeLine then some (.tup (xs ++ ys), .cl) else none
  | .lst xs, .di, .lst ys, _ => none
  | .lst xs, _, .lst ys, .di => none
  | .lst xs, _, .lst ys, _ => if xs.length + ys.length ≤ sizeLine then some (.lst (xs ++ ys), .fr) else none
  | _, _, _, _ => none
def rAddP (K : PySem.W.Frag) : R2 := fun x y H Q => (rI0 (fun i j => .int (i + j)) x y H Q) ∨ (∃ i j, x = .str i ∧ y = .str j ∧ i.length + j.length ≤ sizeLine ∧ Q (.str (i ++ j)) H) ∨ rCatA K x y H Q ∨ rCat x y H Q
theorem op_addP {X : Cx} : OpR X (binaryOp .Add) (rAddP X.K) := .or op_add (.or op_add_str (.or op_catA op_cat))
theorem str_len {x y : Str} : (x ++ y).length = x.length + y.length := by
  show (x.cps ++ y.cps).size = _
  rw [Array.size_append]; rfl
theorem sem_add {F : Fr} : OpSem F (rAddP F.g.K) addF := by
  intro own σ ρ s0 s H0 H v1 v2 x tx y ty z t Q S0 x0 S h1 h2 e h
  unfold addF at e
  split at e
  · cases e
    cases (show v1 = .int _ from VT.view S0 h1)
    cases (show v2 = .int _ from VT.view S0 h2)
    exact .inl ⟨_, _, rfl, rfl, done_flat S h rfl⟩
  · split at e
    · rename_i hl
      cases e
      cases (VT.view S0 h1).1
      cases (VT.view S0 h2).1
      exact .inr (.inl ⟨_, _, rfl, rfl, hl, done_flat S h ⟨rfl, by rw [str_len]; exact hl⟩⟩)
    · cases e
  · split at e
    · rename_i hl
      cases e
      obtain ⟨a, ys, e1, hs, hl1, hv1⟩ := h1
      obtain ⟨b, zs, e2, hs2, hl2, hv2⟩ := h2
      subst e1 e2
      rw [hv1.length, hv2.length] at hl
      have hz : (ys ++ zs).length ≤ sizeLine := by rw [List.length_append]; exact hl
      refine .inr (.inr (.inl ⟨a, b, ys, zs, rfl, rfl, hs, hs2, hl, ?_⟩))
      refine ⟨fun e => done_flat S h (v := .ref b) ⟨b, zs, rfl, hs2, hl2, by subst e; exact hv1.append hv2⟩, fun _ e => done_flat S h (v := .ref a) ⟨a, ys, rfl, hs, hl1, ?_⟩, fun _ _ => done_tup S h hz (hv1.append hv2)⟩
      have q := hv1.append hv2
      rw [e, List.append_nil] at q
      exact q
    · cases e
  · cases e
  · cases e
  · split at e
    · rename_i hd1 hd2 hl
      cases e
      obtain ⟨a, ys, e1, _, _, hs, hl1, hv1⟩ := VT.items S0 h1 (.inr rfl) (fun q => hd1 q)
      obtain ⟨b, zs, e2, _, _, hs2, hl2, hv2⟩ := VT.items S0 h2 (.inr rfl) (fun q => hd2 q)
      subst e1 e2
      rw [hv1.length, hv2.length] at hl
      exact .inr (.inr (.inr ⟨a, b, ys, zs, rfl, rfl, hs rfl, hs2 rfl, hl, done_lst S h (by rw [List.length_append]; exact hl) (hv1.append hv2)⟩))
    · cases e
  · cases e
def subF : PV → Tag → PV → Tag → Option (PV × Tag)
  | .int i, _, .int j, _ => some (.int (i - j), .cl)
  | _, _, _, _ => none
theorem sem_sub {F : Fr} : OpSem F (rI0 fun i j => .int (i - j)) subF := by
  intro own σ ρ s0 s H0 H v1 v2 x tx y ty z t Q S0 x0 S h1 h2 e h
  unfold subF at e
  split at e
  · cases e
    cases (show v1 = .int _ from VT.view S0 h1)
    cases (show v2 = .int _ from VT.view S0 h2)
    exact ⟨_, _, rfl, rfl, done_flat S h rfl⟩
  · cases e
def small64 (i : Int) : Bool := decide (-(2 ^ 64) < i) && decide (i < 2 ^ 64)
def mulF : PV → Tag → PV → Tag → Option (PV × Tag)
  | .int i, _, .int j, _ => if small64 i || small64 j then some (.int (i * j), .cl) else none
  | .lst _, .di, .int _, _ => none
  | .lst xs, _, .int k, _ => if decide (0 ≤ k) && decide (k < 2 ^ 63) && decide (xs.length * k.toNat ≤ sizeLine) then some (.lst (List.replicate k.toNat xs).flatten, .fr) else none
  | _, _, _, _ => none
def rMulP : R2 := fun x y H Q => rI CMul (fun i j => .int (i * j)) x y H Q ∨ rRep x y H Q
theorem op_mulP {X : Cx} : OpR X (binaryOp .Mult) rMulP := .or op_mul op_rep
theorem Views.rep {g : Gm} {L : Option (Addr × Addr)} {H : Hp} {B : Addr → Prop} {xs : List PV} {ys : List V} (h : Views g L H B xs ys) : ∀ k : Nat, Views g L H B (List.replicate k xs).flatten (List.replicate k ys).flatten
  | 0 => rfl
  | k + 1 => by
    rw [List.replicate_succ, List.replicate_succ, List.flatten_cons, List.flatten_cons]
    exact h.append (Views.rep h k)
theorem sem_mul {F : Fr} : OpSem F rMulP mulF := by
  intro own σ ρ s0 s H0 H v1 v2 x tx y ty z t Q S0 x0 S h1 h2 e h
  unfold mulF at e
  split at e
  · split at e
    · rename_i hc
      cases e
      cases (show v1 = .int _ from VT.view S0 h1)
      cases (show v2 = .int _ from VT.view S0 h2)
      simp only [small64, Bool.or_eq_true, Bool.and_eq_true, decide_eq_true_eq] at hc
      exact .inl ⟨_, _, rfl, rfl, hc, done_flat S h rfl⟩
    · cases e
  · cases e
  · split at e
    · rename_i hd1 hc
      cases e
      simp only [Bool.and_eq_true, decide_eq_true_eq] at hc
      obtain ⟨a, ys, e1, _, _, hs, hl1, hv1⟩ := VT.items S0 h1 (.inr rfl) (fun q => hd1 q)
      cases (show v2 = .int _ from VT.view S0 h2)
      subst e1
      rw [hv1.length] at hc
      refine .inr ⟨a, _, ys, rfl, rfl, hs rfl, by omega, hc.1.2, hc.2, done_lst S h ?_ (Views.rep hv1 _)⟩
      rw [List.length_flatten, List.map_replicate, List.sum_replicate_nat, Nat.mul_comm]
      exact hc.2
    · cases e
  · cases e
def modF : PV → Tag → PV → Tag → Option (PV × Tag)
  | .int i, _, .int j, _ => if j = 0 then none else some (.int (i.fmod j), .cl)
  | _, _, _, _ => none
theorem sem_mod {F : Fr} : OpSem F (rI (fun _ j => j ≠ 0) fun i j => .int (i.fmod j)) modF := by
  intro own σ ρ s0 s H0 H v1 v2 x tx y ty z t Q S0 x0 S h1 h2 e h
  unfold modF at e
  split at e
  · split at e
    · cases e
    · rename_i hc
      cases e
      cases (show v1 = .int _ from VT.view S0 h1)
      cases (show v2 = .int _ from VT.view S0 h2)
      exact ⟨_, _, rfl, rfl, hc, done_flat S h rfl⟩
  · cases e
def fdivF : PV → Tag → PV → Tag → Option (PV × Tag)
  | .int i, _, .int j, _ => if decide (j ≠ 0) && decide (j.natAbs < 1073741824) then some (.int (i.fdiv j), .cl) else none
  | _, _, _, _ => none
theorem sem_fdiv {F : Fr} : OpSem F (rI CDivN fun i j => .int (i.fdiv j)) fdivF := by
  intro own σ ρ s0 s H0 H v1 v2 x tx y ty z t Q S0 x0 S h1 h2 e h
  unfold fdivF at e
  split at e
  · split at e
    · rename_i hc
      cases e
      simp only [Bool.and_eq_true, decide_eq_true_eq] at hc
      cases (show v1 = .int _ from VT.view S0 h1)
      cases (show v2 = .int _ from VT.view S0 h2)
      exact ⟨_, _, rfl, rfl, hc, done_flat S h rfl⟩
    · cases e
  · cases e

/-! ### comparisons -/
def cmpF (p : Int → Int → Bool) : PV → Tag → PV → Tag → Option (PV × Tag)
  | .int i, _, .int j, _ => some (.bl (p i j), .cl)
  | _, _, _, _ => none
theorem sem_cmp {F : Fr} {p : Int → Int → Bool} : OpSem F (rI0 fun i j => .bl (p i j)) (cmpF p) := by
  intro own σ ρ s0 s H0 H v1 v2 x tx y ty z t Q S0 x0 S h1 h2 e h
  unfold cmpF at e
  split at e
  · cases e
    cases (show v1 = .int _ from VT.view S0 h1)
    cases (show v2 = .int _ from VT.view S0 h2)
    exact ⟨_, _, rfl, rfl, done_flat S h rfl⟩
  · cases e
abbrev ltF := cmpF fun i j => decide (i < j)
abbrev leF := cmpF fun i j => decide (i ≤ j)
abbrev gtF := cmpF fun i j => decide (j < i)
abbrev geF := cmpF fun i j => decide (j ≤ i)
def eqP (x y : PV) : Bool := PyData.eqv (toD x) (toD y)
def eqF (neg : Bool) (x : PV) (_ : Tag) (y : PV) (_ : Tag) : Option (PV × Tag) := if shP x && shP y then some (.bl (neg != eqP x y), .cl) else none
theorem sem_eq {F : Fr} : OpSem F (rEqD F.g.K) (eqF false) := by
  intro own σ ρ s0 s H0 H v1 v2 x tx y ty z t Q S0 x0 S h1 h2 e h
  unfold eqF at e
  split at e
  · rename_i hc
    cases e
    simp only [Bool.and_eq_true] at hc
    exact ⟨_, _, shP.dp hc.1 (VT.view S0 h1), shP.dp hc.2 (VT.view S0 h2), hc.1, hc.2, done_flat S h (by show V.bl _ = V.bl _; simp [eqP])⟩
  · cases e
theorem sem_ne {F : Fr} : OpSem F (rNeD F.g.K) (eqF true) := by
  intro own σ ρ s0 s H0 H v1 v2 x tx y ty z t Q S0 x0 S h1 h2 e h
  unfold eqF at e
  split at e
  · rename_i hc
    cases e
    simp only [Bool.and_eq_true] at hc
    exact ⟨_, _, shP.dp hc.1 (VT.view S0 h1), shP.dp hc.2 (VT.view S0 h2), hc.1, hc.2, done_flat S h (by show V.bl _ = V.bl _; simp [eqP])⟩
  · cases e
def isNone : PV → Bool
  | .non => true
  | _ => false
def isNF (neg : Bool) : PV → Tag → PV → Tag → Option (PV × Tag)
  | x, _, .non, _ => some (.bl (neg != isNone x), .cl)
  | _, _, _, _ => none
theorem isNone_of {g : Gm} {L : Option (Addr × Addr)} {H : Hp} {B : Addr → Prop} {x : PV} {v : V} (h : View g L H B x v) : decide (v = .non) = isNone x := by
  cases x with
  | non => cases (show v = .non from h); rfl
  | bl b => cases (show v = .bl b from h); rfl
  | int b => cases (show v = .int b from h); rfl
  | str b => cases h.1; rfl
  | tup xs => obtain ⟨a, ys, e, _⟩ := h; subst e; rfl
  | lst xs => obtain ⟨a, ys, e, _⟩ := h; subst e; rfl
  | dK ks xs => obtain ⟨a, ys, e, _⟩ := h; subst e; rfl
  | src => obtain ⟨a, _, e⟩ := h; subst e; rfl
  | fn i => obtain ⟨a, _, e⟩ := h; subst e; rfl
theorem sem_isN {F : Fr} : OpSem F (fun x y H Q => y = .non ∧ Q (.bl (decide (x = .non))) H) (isNF false) := by
  intro own σ ρ s0 s H0 H v1 v2 x tx y ty z t Q S0 x0 S h1 h2 e h
  unfold isNF at e
  split at e
  · cases e
    cases (show v2 = .non from VT.view S0 h2)
    refine ⟨rfl, done_flat S h (by show V.bl _ = V.bl _; rw [isNone_of (VT.view S0 h1)]; simp)⟩
  · cases e
theorem sem_notN {F : Fr} : OpSem F (fun x y H Q => y = .non ∧ Q (.bl (!decide (x = .non))) H) (isNF true) := by
  intro own σ ρ s0 s H0 H v1 v2 x tx y ty z t Q S0 x0 S h1 h2 e h
  unfold isNF at e
  split at e
  · cases e
    cases (show v2 = .non from VT.view S0 h2)
    refine ⟨rfl, done_flat S h (by show V.bl _ = V.bl _; rw [isNone_of (VT.view S0 h1)]; simp)⟩
  · cases e

/-! ### keys -/
def keyOf : PV → Option Key
  | .int i => some (.inl i)
  | .str x => some (.inr x)
  | _ => none
def dget : List Key → List PV → Key → Option PV
  | k :: ks, v :: vs, j => if k = j then some v else dget ks vs j
  | _, _, _ => none
def dputV : List Key → List PV → Key → PV → List PV
  | k :: ks, v :: vs, j, w => (if k = j then w else v) :: dputV ks vs j w
  | _, _, _, _ => []
def dput (ks : List Key) (vs : List PV) (j : Key) (w : PV) : List Key × List PV := if (ks.any fun k => decide (k = j)) = true then (ks, dputV ks vs j w) else (ks ++ [j], vs ++ [w])
theorem keyOf_view {g : Gm} {L : Option (Addr × Addr)} {H : Hp} {B : Addr → Prop} {x : PV} {v : V} {k : Key} (h : View g L H B x v) (e : keyOf x = some k) : v = kV k := by
  cases x <;> simp [keyOf] at e
  · subst e; exact h
  · subst e; exact h.1
theorem dget_val {g : Gm} {L : Option (Addr × Addr)} {H : Hp} {B : Addr → Prop} (j : Key) : ∀ {ks : List Key} {vs : List PV} {ys : List V}, ks.length = ys.length → Views g L H B vs ys →
    (∀ x, dget ks vs j = some x → ∃ y, valV (ks.zip ys) j = some y ∧ View g L H B x y) ∧ (dget ks vs j = none → valV (ks.zip ys) j = none)
  | [], vs, ys, hl, h => ⟨fun x e => by simp [dget] at e, fun _ => by simp [valV_nil]⟩
  | k :: ks, [], ys, hl, h => by cases (show ys = [] from h); simp at hl
  | k :: ks, v :: vs, ys, hl, h => by
    obtain ⟨y, r, e, h1, h2⟩ := h
    subst e
    have ih := dget_val j (ks := ks) (by simpa using hl) h2
    rw [List.zip_cons_cons]
    unfold dget
    by_cases hk : k = j
    · rw [if_pos hk, valV_pos hk]
      exact ⟨fun x e => ⟨y, rfl, by cases e; exact h1⟩, fun e => nomatch e⟩
    · rw [if_neg hk, valV_neg hk]
      exact ih
theorem dput_put {g : Gm} {L : Option (Addr × Addr)} {H : Hp} {B : Addr → Prop} {j : Key} {w : PV} {y : V} (hy : View g L H B w y) {ks : List Key} {vs : List PV} {ys : List V} (hl : ks.length = ys.length) (h : Views g L H B vs ys) :
    ∃ zs, putK (ks.zip ys) j y = (dput ks vs j w).1.zip zs ∧ (dput ks vs j w).1.length = zs.length ∧ Views g L H B (dput ks vs j w).2 zs ∧ zs.length ≤ ys.length + 1 := by
  have hany : ∀ {ks : List Key} {ys : List V}, ks.length = ys.length → ((ks.zip ys).any fun kv => decide (kv.1 = j)) = ks.any fun k => decide (k = j) := fun {ks} => by
    induction ks with
    | nil => intro ys _; simp
    | cons k ks ih =>
      intro ys hl
      cases ys with
      | nil => simp at hl
      | cons z ys => rw [List.zip_cons_cons, List.any_cons, List.any_cons, ih (by simpa using hl)]
  have rep : ∀ {ks : List Key} {vs : List PV} {ys : List V}, ks.length = ys.length → Views g L H B vs ys → ∃ zs, (ks.zip ys).map (fun kv => if kv.1 = j then (kv.1, y) else kv) = ks.zip zs ∧ ks.length = zs.length ∧ Views g L H B (dputV ks vs j w) zs ∧ zs.length = ys.length := fun {ks} => by
    induction ks with
    | nil =>
      intro vs ys hl h
      cases ys with
      | nil => exact ⟨[], rfl, rfl, by cases vs <;> rfl, rfl⟩
      | cons _ _ => simp at hl
    | cons k ks ih =>
      intro vs ys hl h
      cases vs with
      | nil => cases (show ys = [] from h); simp at hl
      | cons v vs =>
        obtain ⟨z, r, rfl, h1, h2⟩ := h
        obtain ⟨zs, e1, e2, e3, e4⟩ := ih (by simpa using hl) h2
        refine ⟨(if k = j then y else z) :: zs, ?_, by simpa using e2, ⟨_, zs, rfl, ?_, e3⟩, by simpa using e4⟩
        · rw [List.zip_cons_cons, List.map_cons, e1, List.zip_cons_cons]
          dsimp only
          split <;> rfl
        · split
          · exact hy
          · exact h1
  unfold putK dput
  rw [hany hl]
  split
  · obtain ⟨zs, e1, e2, e3, e4⟩ := rep hl h
    exact ⟨zs, e1, e2, e3, by omega⟩
  · exact ⟨ys ++ [y], by rw [List.zip_append hl]; rfl, by simp [hl], h.append (.one hy), by simp⟩

/-! ### in -/
def rInP (K : PySem.W.Frag) (neg : Bool) : R2 := fun x y H Q =>
  (∃ d ds, Dp K H x d ∧ (Dp K H y (.list ds) ∨ Dp K H y (.tuple ds)) ∧ SeqAt.shaped d = true ∧ SeqAt.shaped (.list ds) = true ∧ Q (.bl (neg != ds.any fun z => PyData.eqv z d)) H) ∨
  (∃ a o, y = .ref a ∧ DGet H a x o ∧ Q (.bl (neg != o.isSome)) H) ∨ (∃ i j, x = .str i ∧ y = .str j ∧ Q (.bl (neg != !(Builtin.Str.occurrences j i 0 j.length 1).isEmpty)) H)
theorem sh_list {ds : List PyData} (h : SeqAt.shaped (.list ds) = true) : PyData.canLayAll0 ds = true := SeqAt.canLay_of_shaped h
theorem op_inP {X : Cx} (hu : X.A.units + 65 < cLine) : OpR X (compareOp .In) (rInP X.K false) := by
  intro pins s σ H x y v u Q I rx ry h
  rcases h with ⟨d, ds, hd, he, sd, se, q⟩ | ⟨a, o, rfl, g, q⟩ | ⟨i, j, e1, e2, q⟩
  · obtain ⟨as, r1⟩ := Dp.reads I d x v hd rx
    have room : X.A.units + 1 + min (PyData.depthAll ds) d.depth < cLine := by
      have h1 := SeqAt.depth_of_shaped sd
      have h2 := Nat.min_le_right (PyData.depthAll ds) d.depth
      omega
    rcases he with he | he
    · obtain ⟨bs, r2⟩ := Dp.reads I _ y u he ry
      exact SeqAt.in_list_reads r2 r1 (sh_list se) (SeqAt.canLay_of_shaped sd) room ⟨.bl _, H, I, rfl, by simpa using q⟩
    · obtain ⟨bs, r2⟩ := Dp.reads I _ y u he ry
      exact SeqAt.in_tuple_reads r2 r1 (sh_list se) (SeqAt.canLay_of_shaped sd) room ⟨.bl _, H, I, rfl, by simpa using q⟩
  · cases ry
    exact d_in (by omega) I g rx fun s' I' => ⟨.bl _, H, I', rfl, by simpa using q⟩
  · exact op_in_str pins s σ H x y v u Q I rx ry ⟨i, j, e1, e2, by simpa using q⟩
theorem op_notInP {X : Cx} (hu : X.A.units + 65 < cLine) : OpR X (compareOp .NotIn) (rInP X.K true) := by
  intro pins s σ H x y v u Q I rx ry h
  rcases h with ⟨d, ds, hd, he, sd, se, q⟩ | ⟨a, o, rfl, g, q⟩ | ⟨i, j, e1, e2, q⟩
  · obtain ⟨as, r1⟩ := Dp.reads I d x v hd rx
    have room : X.A.units + 1 + min (PyData.depthAll ds) d.depth < cLine := by
      have h1 := SeqAt.depth_of_shaped sd
      have h2 := Nat.min_le_right (PyData.depthAll ds) d.depth
      omega
    rcases he with he | he
    · obtain ⟨bs, r2⟩ := Dp.reads I _ y u he ry
      exact SeqAt.notIn_list_reads r2 r1 (sh_list se) (SeqAt.canLay_of_shaped sd) room ⟨.bl _, H, I, rfl, by simpa using q⟩
    · obtain ⟨bs, r2⟩ := Dp.reads I _ y u he ry
      exact SeqAt.notIn_tuple_reads r2 r1 (sh_list se) (SeqAt.canLay_of_shaped sd) room ⟨.bl _, H, I, rfl, by simpa using q⟩
  · cases ry
    exact d_notIn (by omega) I g rx fun s' I' => ⟨.bl _, H, I', rfl, by simpa using q⟩
  · exact op_notin_str pins s σ H x y v u Q I rx ry ⟨i, j, e1, e2, by simpa using q⟩
def inF (neg : Bool) (x : PV) (_ : Tag) (y : PV) (_ : Tag) : Option (PV × Tag) :=
  match y with
  | .lst ys => if shP x && SeqAt.shaped (.list (toDs ys)) then some (.bl (neg != ys.any fun z => eqP z x), .cl) else none
  | .tup ys => if shP x && SeqAt.shaped (.list (toDs ys)) then some (.bl (neg != ys.any fun z => eqP z x), .cl) else none
  | .dK ks vs => match keyOf x with
    | some k => some (.bl (neg != (dget ks vs k).isSome), .cl)
    | none => none
  | .str j => match x with
    | .str i => some (.bl (neg != !(Builtin.Str.occurrences j i 0 j.length 1).isEmpty), .cl)
    | _ => none
  | _ => none
theorem any_toDs (x : PV) : ∀ ys : List PV, ((toDs ys).any fun z => PyData.eqv z (toD x)) = ys.any fun z => eqP z x
  | [] => rfl
  | y :: ys => by
    simp only [toDs, List.any_cons, eqP]
    rw [any_toDs x ys]
    rfl
theorem sem_in {F : Fr} {neg : Bool} : OpSem F (rInP F.g.K neg) (inF neg) := by
  intro own σ ρ s0 s H0 H v1 v2 x tx y ty z t Q S0 x0 S h1 h2 e h
  unfold inF at e
  split at e
  · split at e
    · rename_i ys hc
      cases e
      simp only [Bool.and_eq_true] at hc
      obtain ⟨a, zs, e2, _, hs, hl2, hv2⟩ := VT.itemsB S0 h2 (.inr rfl)
      subst e2
      exact .inl ⟨toD x, toDs ys, shP.dp hc.1 (VT.view S0 h1), .inl (.lst (SqL.of (hs rfl)) (Views.dp _ _ (sh_list hc.2) hv2)), hc.1, hc.2, done_flat S h (by show V.bl _ = V.bl _; rw [any_toDs])⟩
    · cases e
  · split at e
    · rename_i ys hc
      cases e
      simp only [Bool.and_eq_true] at hc
      obtain ⟨a, zs, e2, hs, _, hl2, hv2⟩ := VT.itemsB S0 h2 (.inl rfl)
      subst e2
      exact .inl ⟨toD x, toDs ys, shP.dp hc.1 (VT.view S0 h1), .inr (.tup (hs rfl) (Views.dp _ _ (sh_list hc.2) hv2)), hc.1, hc.2, done_flat S h (by show V.bl _ = V.bl _; rw [any_toDs])⟩
    · cases e
  · rename_i ks vs
    split at e
    · rename_i k hk
      cases e
      obtain ⟨a, ys, e2, _, hs, hl2, _, hv2⟩ := VT.view S0 h2
      subst e2
      obtain ⟨g1, g2⟩ := dget_val k hl2 hv2
      have e1 := keyOf_view (VT.view S0 h1) hk
      subst e1
      cases hd : dget ks vs k with
      | none => exact .inr (.inl ⟨a, none, rfl, .inl ⟨_, k, .inl hs, rfl, (g2 hd).symm⟩, done_flat S h (by show V.bl _ = V.bl _; rw [hd]; rfl)⟩)
      | some w =>
        obtain ⟨y, e3, _⟩ := g1 w hd
        exact .inr (.inl ⟨a, some y, rfl, .inl ⟨_, k, .inl hs, rfl, e3.symm⟩, done_flat S h (by show V.bl _ = V.bl _; rw [hd]; rfl)⟩)
    · cases e
  · split at e
    · cases e
      cases (VT.view S0 h1).1
      cases (VT.view S0 h2).1
      exact .inr (.inr ⟨_, _, rfl, rfl, done_flat S h rfl⟩)
    · cases e
  · cases e

/-! ### subscripts -/
def rIxP (K : PySem.W.Frag) : R2 := fun x y H Q => rIxL K x y H Q ∨ rIxT K x y H Q ∨ rIxS x y H Q ∨ ∃ a v, x = .ref a ∧ DGet H a y (some v) ∧ Q v H
theorem ix_dict {X : Cx} (hu : X.A.units + 1 < cLine) : IxR X (fun x y H Q => ∃ a v, x = .ref a ∧ DGet H a y (some v) ∧ Q v H) := by
  intro value slice pins s σ H x y v u Q I rx ry h hs
  obtain ⟨a, z, rfl, g, q⟩ := h
  cases rx
  exact PyProof.Rows.tail_any (dict_typeIs I g) PySem.F.slot_dict_getitem.lookup (d_getItem hu I g ry fun w' s3 I3 rw' => ⟨z, H, I3, rw', q⟩) hs
theorem ix_P {X : Cx} (hu : X.A.units + 1 < cLine) : IxR X (rIxP X.K) := .or ix_list (.or ix_tup (.or ix_str (ix_dict hu)))
def ixF (x : PV) (tx : Tag) (y : PV) (_ : Tag) : Option (PV × Tag) :=
  match x with
  | .tup xs => match y with
    | .int k => (atI xs k).map fun z => (z, tx.item)
    | _ => none
  | .lst xs => match y with
    | .int k => (atI xs k).map fun z => (z, tx.item)
    | _ => none
  | .str z => match y with
    | .int k => (atI z.cps.toList k).map fun c => (.str ⟨#[c]⟩, .cl)
    | _ => none
  | .dK ks vs => match keyOf y with
    | some k => (dget ks vs k).map fun z => (z, tx.item)
    | none => none
  | _ => none
theorem Views.atI {g : Gm} {L : Option (Addr × Addr)} {H : Hp} {B : Addr → Prop} {xs : List PV} {ys : List V} {k : Int} {z : PV} (h : Views g L H B xs ys) (e : L2.atI xs k = some z) : ∃ y, L2.atI ys k = some y ∧ View g L H B z y := by
  unfold L2.atI at e ⊢
  rw [h.length] at e
  cases hj : ixN ys.length k with
  | none => rw [hj] at e; cases e
  | some j =>
    rw [hj] at e
    exact h.get e
theorem Tag.item_ne {t : Tag} (h : t ≠ .di) : t.item = .cl := by cases t <;> first | rfl | exact absurd rfl h
theorem done_item {F : Fr} {own : Nat → Option Addr} {σ : L2.St} {H : Hp} {ρ : EnvP} {s : Src} {Q : VK} (S : SR F own σ H ρ s) {z : PV} {v : V} {t : Tag} (h : ∀ H' v, Ext F.L H H' → SrcAt F.L H' s → VT F own H H' t.item z v → Q v H')
    (h1 : t ≠ .di → View F.g F.L H (Bo F own) z v) (h2 : View F.g F.L H F.B z v) : Q v H := by
  by_cases ht : t = .di
  · subst ht; exact h H v (.refl _) S.src h2
  · rw [Tag.item_ne ht] at h
    exact h H v (.refl _) S.src (h1 ht)
theorem sem_ix {F : Fr} : OpSem F (rIxP F.g.K) ixF := by
  intro own σ ρ s0 s H0 H v1 v2 x tx y ty z t Q S0 x0 S h1 h2 e h
  have seq : ∀ {xs : List PV} {k : Int}, (x = .tup xs ∨ x = .lst xs) → v2 = .int k → ((L2.atI xs k).map fun z => (z, tx.item)) = some (z, t) → rIxP F.g.K v1 v2 H Q := fun {xs k} hx hk e => by
    obtain ⟨z', e1, e2⟩ := Option.map_eq_some_iff.mp e
    cases e2
    subst hk
    by_cases ht : tx = .di
    · subst ht
      obtain ⟨a, ys, ea, hst, hsl, hl, hv⟩ := VT.itemsB S0 h1 hx
      subst ea
      obtain ⟨y, ey, hy⟩ := hv.atI e1
      have q : Q y H := h H y (.refl _) S.src hy
      rcases hx with rfl | rfl
      · exact .inr (.inl ⟨a, ys, k, y, rfl, rfl, hst rfl, ey, q⟩)
      · exact .inl ⟨a, ys, k, y, rfl, rfl, SqL.of (hsl rfl), ey, q⟩
    · obtain ⟨a, ys, ea, _, hst, hsl, hl, hv⟩ := VT.items S0 h1 hx ht
      subst ea
      obtain ⟨y, ey, hy⟩ := hv.atI e1
      have q : Q y H := done_item S h (fun _ => hy) (hy.mono (fun b u e _ => e) fun b u e q => q.1)
      rcases hx with rfl | rfl
      · exact .inr (.inl ⟨a, ys, k, y, rfl, rfl, hst rfl, ey, q⟩)
      · exact .inl ⟨a, ys, k, y, rfl, rfl, SqL.of (hsl rfl), ey, q⟩
  unfold ixF at e
  split at e
  · split at e
    · exact seq (.inl rfl) (VT.view S0 h2) e
    · cases e
  · split at e
    · exact seq (.inr rfl) (VT.view S0 h2) e
    · cases e
  · split at e
    · obtain ⟨c, e1, e2⟩ := Option.map_eq_some_iff.mp e
      cases e2
      obtain ⟨e3, hl⟩ := VT.view S0 h1
      cases e3
      cases (show v2 = .int _ from VT.view S0 h2)
      exact .inr (.inr (.inl ⟨_, _, c, rfl, rfl, hl, e1, done_flat S h ⟨rfl, by show 1 ≤ sizeLine; decide⟩⟩))
    · cases e
  · rename_i ks vs
    split at e
    · rename_i k hk
      obtain ⟨w, e1, e2⟩ := Option.map_eq_some_iff.mp e
      cases e2
      have e3 := keyOf_view (VT.view S0 h2) hk
      subst e3
      by_cases ht : tx = .di
      · subst ht
        obtain ⟨a, ys, ea, _, hs, hl2, _, hv2⟩ := VT.view S0 h1
        subst ea
        obtain ⟨y, e4, hy⟩ := (dget_val k hl2 hv2).1 _ e1
        exact .inr (.inr (.inr ⟨a, y, rfl, .inl ⟨_, k, .inl hs, rfl, e4.symm⟩, h H y (.refl _) S.src hy⟩))
      · obtain ⟨a, ys, ea, hs, hl2, hv2⟩ := VT.dict S0 h1 ht
        subst ea
        obtain ⟨y, e4, hy⟩ := (dget_val k hl2 hv2).1 _ e1
        exact .inr (.inr (.inr ⟨a, y, rfl, .inl ⟨_, k, .inl hs, rfl, e4.symm⟩, done_item S h (fun _ => hy) (hy.mono (fun b u e _ => e) fun b u e q => q.1)⟩))
    · cases e
  · cases e

/-! ### slices -/
def cutP (xs : List PV) (lo hi : Option Int) : List PV := (xs.drop (HT.sIx xs.length 0 lo)).take (HT.sIx xs.length xs.length hi - HT.sIx xs.length 0 lo)
theorem Views.cut {g : Gm} {L : Option (Addr × Addr)} {H : Hp} {B : Addr → Prop} {xs : List PV} {ys : List V} (h : Views g L H B xs ys) (lo hi : Option Int) : Views g L H B (cutP xs lo hi) (cutV ys lo hi) := by
  unfold cutP cutV
  rw [h.length]
  exact (h.drop _).take _
def slF (x : PV) (tx : Tag) (lo hi : Option Int) : Option (PV × Tag) :=
  match x with
  | .tup xs => some (.tup (cutP xs lo hi), tx.item)
  | .lst xs => match tx with
    | .di => none
    | _ => some (.lst (cutP xs lo hi), .fr)
  | .str z => some (.str (Txt.slice z lo hi), .cl)
  | _ => none
def rSlP (K : PySem.W.Frag) : V → Option Int → Option Int → Hp → VK → Prop := fun x lo hi H Q => rSlA K x lo hi H Q ∨ rSlL K x lo hi H Q ∨ C8.rSlX x lo hi H Q
theorem sl_P {X : Cx} : SlR X (rSlP X.K) := .or sl_tupA (.or sl_list C8.sl_txt)
theorem slice_len (z : Str) (lo hi : Option Int) : (Txt.slice z lo hi).length ≤ z.length := by
  rw [← C8.cutS_slice]
  exact cutS_length z lo hi
theorem cut_whole {ys : List V} {lo hi : Option Int} (h : HT.sIx ys.length 0 lo = 0 ∧ HT.sIx ys.length ys.length hi = ys.length) : cutV ys lo hi = ys := by
  unfold cutV
  rw [h.1, h.2]
  simp
theorem sem_sl {F : Fr} {own : Nat → Option Addr} {σ : L2.St} {ρ : EnvP} {s0 s : Src} {H0 H : Hp} {v1 : V} {x z : PV} {tx t : Tag} {lo hi : Option Int} {Q : VK} (S0 : SR F own σ H0 ρ s0) (S : SR F own σ H ρ s)
    (h1 : VT F own H0 H tx x v1) (e : slF x tx lo hi = some (z, t)) (h : ∀ H' v, Ext F.L H H' → SrcAt F.L H' s → VT F own H H' t z v → Q v H') : rSlP F.g.K v1 lo hi H Q := by
  unfold slF at e
  split at e
  · cases e
    by_cases ht : tx = .di
    · subst ht
      obtain ⟨a, ys, ea, hst, hsl, hl, hv⟩ := VT.itemsB S0 h1 (.inl rfl)
      subst ea
      refine .inl ⟨a, ys, rfl, hst rfl, fun hw => h H _ (.refl _) S.src ⟨a, ys, rfl, hst rfl, hl, ?_⟩, fun _ => done_tupD S h (Nat.le_trans (cutV_length _ _ _) hl) (hv.cut lo hi)⟩
      have := hv.cut lo hi
      rwa [cut_whole hw] at this
    · rw [Tag.item_ne ht] at h
      obtain ⟨a, ys, ea, _, hst, hsl, hl, hv⟩ := VT.items S0 h1 (.inl rfl) ht
      subst ea
      refine .inl ⟨a, ys, rfl, hst rfl, fun hw => h H _ (.refl _) S.src ⟨a, ys, rfl, hst rfl, hl, ?_⟩, fun _ => done_tup S h (Nat.le_trans (cutV_length _ _ _) hl) (hv.cut lo hi)⟩
      have := hv.cut lo hi
      rwa [cut_whole hw] at this
  · split at e
    · cases e
    · rename_i ht
      cases e
      obtain ⟨a, ys, ea, _, hst, hsl, hl, hv⟩ := VT.items S0 h1 (.inr rfl) (fun q => ht q)
      subst ea
      exact .inr (.inl ⟨a, ys, rfl, SqL.of (hsl rfl), done_lst S h (Nat.le_trans (cutV_length _ _ _) hl) (hv.cut lo hi)⟩)
  · cases e
    obtain ⟨e3, hl⟩ := VT.view S0 h1
    subst e3
    exact .inr (.inr ⟨_, rfl, hl, done_flat S h ⟨rfl, Nat.le_trans (slice_len _ _ _) hl⟩⟩)
  · cases e
def E.part (o : Option EE) (ρ : EnvP) (k : Option Int → Src → Res Rv) (s : Src) : Res Rv :=
  match o with
  | none => k none s
  | some f => (f ρ s).bind fun q => match q.1 with
    | .int i => k (some i) q.2.2
    | _ => .err
def E.slice (a : EE) (lo hi : Option EE) : EE := fun ρ s =>
  (a ρ s).bind fun p => E.part lo ρ (fun l s2 => E.part hi ρ (fun u s3 => match slF p.1 p.2.1 l u with
    | some z => .ok (z.1, z.2, s3)
    | none => .err) s2) p.2.2
def optEE (X : Cx) (F : Fr) : Option Expr → Option EE → Prop
  | none, none => True
  | some e, some f => PX X F e f
  | _, _ => False
def optTO (F : Fr) : Option EE → TO
  | none => tNoPart
  | some f => tPart (TEx F f)
/-- a bound of a slice: absent, or an int -/
theorem po_of {X : Cx} {F : Fr} : ∀ {o : Option Expr} {lo : Option EE} (h : optEE X F o lo), PO X o (optTO F lo)
  | none, none, _ => po_none
  | some _, some _, h => po_some h
  | none, some _, h => h.elim
  | some _, none, h => h.elim
theorem optTO.step {F : Fr} {own : Nat → Option Addr} {σ : L2.St} {H : Hp} {ρ : EnvP} {s : Src} {Q : VK} {k : Option Int → Src → Res Rv} (S : SR F own σ H ρ s) : ∀ {o : Option EE}, Out F own H (E.part o ρ k s) Q →
    optTO F o σ H fun l H2 => ∃ s2, SR F own σ H2 ρ s2 ∧ Ext F.L H H2 ∧ Out F own H2 (k l s2) Q
  | none, h => ⟨s, S, .refl _, h⟩
  | some f, h => by
    obtain ⟨ρ1, s0, own1, S0', h0'⟩ := TEx.step S h
    refine ⟨ρ1, s0, own1, S0', h0'.mono fun w H2 ⟨y, ty, s2, e2, S2, vt2, x2, h2⟩ => ?_⟩
    dsimp only at h2
    split at h2
    · exact ⟨_, VT.view S vt2, s2, S2, x2, h2⟩
    · exact h2.elim
theorem tPart_mono {F : Fr} {σ : L2.St} {H : Hp} : ∀ {o : Option EE} {Q Q' : Option Int → Hp → Prop}, optTO F o σ H Q → (∀ l H', Q l H' → Q' l H') → optTO F o σ H Q'
  | none, Q, Q', h, i => i _ _ h
  | some f, Q, Q', ⟨ρ, s, own, S, h⟩, i => ⟨ρ, s, own, S, h.mono fun v H' ⟨j, e, q⟩ => ⟨j, e, i _ _ q⟩⟩
theorem px_slice {X : Cx} {F : Fr} {a : Expr} {fa : EE} {lo hi : Option Expr} {flo fhi : Option EE} {p2 pos : Pos} (ha : PX X F a fa) (hlo : optEE X F lo flo) (hhi : optEE X F hi fhi) (hK : F.g.K = X.K := by rfl) :
    PX X F (.Subscript a (.Slice lo hi none p2) pos) (E.slice fa flo fhi) := by
  refine PE.imp (pe_slice sl_P ha (po_of hlo) (po_of hhi)) fun σ H Q ⟨ρ, s, own, S, h⟩ => ?_
  unfold E.slice at h
  rw [← hK]
  obtain ⟨ρ1, s0, own1, S0, h0⟩ := TEx.step S h
  refine ⟨ρ1, s0, own1, S0, h0.mono fun v1 H1 ⟨x, tx, s1, e1, S1, vt1, x1, h1⟩ => ?_⟩
  dsimp only at h1
  refine tPart_mono (optTO.step S1 h1) fun l H2 ⟨s2, S2, x2, h2⟩ => ?_
  refine tPart_mono (optTO.step S2 h2) fun u H3 ⟨s3, S3, x3, h3⟩ => ?_
  cases ez : slF x tx l u with
  | none => rw [ez] at h3; exact h3.elim
  | some z =>
    obtain ⟨z, t⟩ := z
    rw [ez] at h3
    exact sem_sl S S3 (VT.ext S S1 vt1 (x2.trans x3)) ez (fun H' v a b c => h3 H' v a b c)

/-! ### the rules -/
section
variable {X : Cx} {F : Fr} {a b : Expr} {fa fb : EE} {pos : Pos}
theorem px_add (ha : PX X F a fa) (hb : PX X F b fb) (hK : F.g.K = X.K := by rfl) : PX X F (.BinOp a .Add b pos) (E.bin addF fa fb) := px_bin (r := rAddP X.K) op_addP (hK ▸ sem_add) ha hb
theorem px_sub (ha : PX X F a fa) (hb : PX X F b fb) : PX X F (.BinOp a .Sub b pos) (E.bin subF fa fb) := px_bin op_sub sem_sub ha hb
theorem px_mul (ha : PX X F a fa) (hb : PX X F b fb) : PX X F (.BinOp a .Mult b pos) (E.bin mulF fa fb) := px_bin op_mulP sem_mul ha hb
theorem px_mod (ha : PX X F a fa) (hb : PX X F b fb) : PX X F (.BinOp a .Mod b pos) (E.bin modF fa fb) := px_bin op_modN sem_mod ha hb
theorem px_fdiv (ha : PX X F a fa) (hb : PX X F b fb) : PX X F (.BinOp a .FloorDiv b pos) (E.bin fdivF fa fb) := px_bin op_fdivN sem_fdiv ha hb
theorem px_lt (ha : PX X F a fa) (hb : PX X F b fb) : PX X F (.Compare a [.Lt] [b] pos) (E.bin ltF fa fb) := px_cmp op_lt sem_cmp ha hb
theorem px_le (ha : PX X F a fa) (hb : PX X F b fb) : PX X F (.Compare a [.LtE] [b] pos) (E.bin leF fa fb) := px_cmp op_le sem_cmp ha hb
theorem px_gt (ha : PX X F a fa) (hb : PX X F b fb) : PX X F (.Compare a [.Gt] [b] pos) (E.bin gtF fa fb) := px_cmp op_gt sem_cmp ha hb
theorem px_ge (ha : PX X F a fa) (hb : PX X F b fb) : PX X F (.Compare a [.GtE] [b] pos) (E.bin geF fa fb) := px_cmp op_ge sem_cmp ha hb
theorem px_eq {k : Nat} (hr : Room k X.A) (ha : PX X F a fa) (hb : PX X F b fb) (hK : F.g.K = X.K := by rfl) : PX X F (.Compare a [.Eq] [b] pos) (E.bin (eqF false) fa fb) := px_cmp (r := rEqD X.K) (op_eqD hr.units) (hK ▸ sem_eq) ha hb
theorem px_ne {k : Nat} (hr : Room k X.A) (ha : PX X F a fa) (hb : PX X F b fb) (hK : F.g.K = X.K := by rfl) : PX X F (.Compare a [.NotEq] [b] pos) (E.bin (eqF true) fa fb) := px_cmp (r := rNeD X.K) (op_neD hr.units) (hK ▸ sem_ne) ha hb
theorem px_is (ha : PX X F a fa) (hb : PX X F b fb) : PX X F (.Compare a [.Is] [b] pos) (E.bin (isNF false) fa fb) := px_cmp op_isN sem_isN ha hb
theorem px_isNot (ha : PX X F a fa) (hb : PX X F b fb) : PX X F (.Compare a [.IsNot] [b] pos) (E.bin (isNF true) fa fb) := px_cmp op_notN sem_notN ha hb
theorem units65 {k : Nat} {A : Around} (hr : Room k A) : A.units + 65 < cLine := by have := hr.un; omega
theorem px_in {k : Nat} (hr : Room k X.A) (ha : PX X F a fa) (hb : PX X F b fb) (hm : behindInMarks .In b = false := by rfl) (hK : F.g.K = X.K := by rfl) : PX X F (.Compare a [.In] [b] pos) (E.bin (inF false) fa fb) := px_cmp (r := rInP X.K false) (op_inP (units65 hr)) (hK ▸ sem_in) ha hb hm
theorem px_notIn {k : Nat} (hr : Room k X.A) (ha : PX X F a fa) (hb : PX X F b fb) (hm : behindInMarks .NotIn b = false := by rfl) (hK : F.g.K = X.K := by rfl) : PX X F (.Compare a [.NotIn] [b] pos) (E.bin (inF true) fa fb) := px_cmp (r := rInP X.K true) (op_notInP (units65 hr)) (hK ▸ sem_in) ha hb hm
theorem px_sub_ix {k : Nat} (hr : Room k X.A) (ha : PX X F a fa) (hb : PX X F b fb) (hs : PlainIx b := by exact fun _ _ => rfl) (hK : F.g.K = X.K := by rfl) : PX X F (.Subscript a b pos) (E.bin ixF fa fb) := px_ix (r := rIxP X.K) (ix_P (hu_of hr)) (hK ▸ sem_ix) ha hb hs
end
end EV
set_option Elab.async false
set_option linter.all false
set_option maxRecDepth 100000
/-! The pure reading of tests, displays, calls. -/
namespace EV
open PySem PySem.Spec L2

/-! ### tests -/
def TTx (F : Fr) (f : EE) : TT := fun σ H Q => TEx F f σ H fun v H' => ∃ b, v = .bl b ∧ Q b H'
def PTX (X : Cx) (F : Fr) (e : Expr) (f : EE) : Prop := PT X e (TTx F f)
def PWX (X : Cx) (F : Fr) (e : Expr) (f : EE) : Prop := PW X e (TTx F f)
def E.and (a b : EE) : EE := fun ρ s => (a ρ s).bind fun p => match p.1 with
  | .bl true => b ρ p.2.2
  | .bl false => .ok (.bl false, .cl, p.2.2)
  | _ => .err
def E.or (a b : EE) : EE := fun ρ s => (a ρ s).bind fun p => match p.1 with
  | .bl true => .ok (.bl true, .cl, p.2.2)
  | .bl false => b ρ p.2.2
  | _ => .err
def E.not (a : EE) : EE := fun ρ s => (a ρ s).bind fun p => match p.1 with
  | .bl b => .ok (.bl (!b), .cl, p.2.2)
  | _ => .err
def E.ite (c a b : EE) : EE := fun ρ s => (c ρ s).bind fun p => match p.1 with
  | .bl true => a ρ p.2.2
  | .bl false => b ρ p.2.2
  | _ => .err
section
variable {X : Cx} {F : Fr} {a b c e : Expr} {fa fb fc f : EE} {pos : Pos} {rest : List Expr}
theorem ptx_val (h : PX X F e f) (he : ∀ whole, isTrue e X.env whole = (do let v ← whole; standAt e.pos; holding [v] (truthy v)) := by intro _; rfl) : PTX X F e f := pt_val h he
/-- a branch by a known bool -/
theorem TEx.cond {σ : L2.St} {H : Hp} {own : Nat → Option Addr} {ρ : EnvP} {s : Src} {Q : VK} {k : Bool → Src → Res Rv} (S : SR F own σ H ρ s)
    (h : Out F own H ((fc ρ s).bind fun p => match p.1 with
      | .bl true => k true p.2.2
      | .bl false => k false p.2.2
      | _ => .err) Q) : TEx F fc σ H fun v H1 => ∃ b s1, v = .bl b ∧ SR F own σ H1 ρ s1 ∧ Ext F.L H H1 ∧ Out F own H1 (k b s1) Q := by
  obtain ⟨ρ1, s0, own1, S0, h0⟩ := TEx.step S h
  refine ⟨ρ1, s0, own1, S0, h0.mono fun v1 H1 ⟨x, tx, s1, e1, S1, vt1, x1, h1⟩ => ?_⟩
  dsimp only at h1
  split at h1
  · exact ⟨true, s1, VT.view S vt1, S1, x1, h1⟩
  · exact ⟨false, s1, VT.view S vt1, S1, x1, h1⟩
  · exact h1.elim
theorem TEx.mono {σ : L2.St} {H : Hp} {Q Q' : VK} (h : TEx F f σ H Q) (i : ∀ v H', Q v H' → Q' v H') : TEx F f σ H Q' := by
  obtain ⟨ρ, s, own, S, h⟩ := h
  exact ⟨ρ, s, own, S, h.mono i⟩
theorem ptx_not (h : PTX X F a fa) : PTX X F (.UnaryOp .Not a pos) (E.not fa) := by
  refine PT.imp (pt_not h) fun σ H Q ⟨ρ, s, own, S, q⟩ => ?_
  unfold E.not at q
  refine TEx.mono (TEx.step S q) fun v H1 ⟨x, tx, s1, e1, S1, vt1, x1, h1⟩ => ?_
  dsimp only at h1
  split at h1
  · rename_i b
    obtain ⟨c, e2, q2⟩ := h1 H1 (.bl (!b)) (.refl _) S1.src rfl
    cases e2
    exact ⟨b, VT.view S vt1, q2⟩
  · exact h1.elim
theorem px_not (h : PX X F a fa) : PX X F (.UnaryOp .Not a pos) (E.not fa) := by
  refine PE.imp (pe_not h) fun σ H Q ⟨ρ, s, own, S, q⟩ => ?_
  unfold E.not at q
  refine TEx.mono (TEx.step S q) fun v H1 ⟨x, tx, s1, e1, S1, vt1, x1, h1⟩ => ?_
  dsimp only at h1
  split at h1
  · rename_i b
    exact ⟨b, VT.view S vt1, h1 H1 (.bl (!b)) (.refl _) S1.src rfl⟩
  · exact h1.elim
theorem pwx_and1 (h : PTX X F a fa) : PWX X F (.BoolOp .And [a] pos) fa := pw_and1 h
theorem pwx_or1 (h : PTX X F a fa) : PWX X F (.BoolOp .Or [a] pos) fa := pw_or1 h
theorem pwx_and (ha : PTX X F a fa) (hb : PWX X F (.BoolOp .And (b :: rest) pos) fb) : PWX X F (.BoolOp .And (a :: b :: rest) pos) (E.and fa fb) := by
  refine PW.imp (pw_and ha hb) fun σ H Q ⟨ρ, s, own, S, q⟩ => ?_
  refine TEx.mono (TEx.cond (k := fun c s1 => if c = true then fb ρ s1 else .ok (.bl false, .cl, s1)) S q) fun v H1 ⟨c, s1, e, S1, x1, h1⟩ => ⟨c, e, ?_⟩
  cases c with
  | true => exact ⟨ρ, s1, own, S1, h1⟩
  | false =>
    obtain ⟨d, e2, q2⟩ := h1 H1 (.bl false) (.refl _) S1.src rfl
    cases e2
    exact q2
theorem pwx_or (ha : PTX X F a fa) (hb : PWX X F (.BoolOp .Or (b :: rest) pos) fb) : PWX X F (.BoolOp .Or (a :: b :: rest) pos) (E.or fa fb) := by
  refine PW.imp (pw_or ha hb) fun σ H Q ⟨ρ, s, own, S, q⟩ => ?_
  refine TEx.mono (TEx.cond (k := fun c s1 => if c = true then .ok (.bl true, .cl, s1) else fb ρ s1) S q) fun v H1 ⟨c, s1, e, S1, x1, h1⟩ => ⟨c, e, ?_⟩
  cases c with
  | false => exact ⟨ρ, s1, own, S1, h1⟩
  | true =>
    obtain ⟨d, e2, q2⟩ := h1 H1 (.bl true) (.refl _) S1.src rfl
    cases e2
    exact q2
theorem PWX.pt (h : PWX X F e f) : PTX X F e f := PW.pt h
theorem px_one {op : BoolOp} (h : PX X F a fa) : PX X F (.BoolOp op [a] pos) fa := pe_one h
theorem px_and (ha : PX X F a fa) (hb : PX X F (.BoolOp .And (b :: rest) pos) fb) : PX X F (.BoolOp .And (a :: b :: rest) pos) (E.and fa fb) := by
  refine PE.imp (pe_and ha hb) fun σ H Q ⟨ρ, s, own, S, q⟩ => ?_
  refine TEx.mono (TEx.cond (k := fun c s1 => if c = true then fb ρ s1 else .ok (.bl false, .cl, s1)) S q) fun v H1 ⟨c, s1, e, S1, x1, h1⟩ => ⟨c, e, ?_⟩
  cases c with
  | true => exact ⟨ρ, s1, own, S1, h1⟩
  | false => exact h1 H1 (.bl false) (.refl _) S1.src rfl
theorem px_or (ha : PX X F a fa) (hb : PX X F (.BoolOp .Or (b :: rest) pos) fb) : PX X F (.BoolOp .Or (a :: b :: rest) pos) (E.or fa fb) := by
  refine PE.imp (pe_or ha hb) fun σ H Q ⟨ρ, s, own, S, q⟩ => ?_
  refine TEx.mono (TEx.cond (k := fun c s1 => if c = true then .ok (.bl true, .cl, s1) else fb ρ s1) S q) fun v H1 ⟨c, s1, e, S1, x1, h1⟩ => ⟨c, e, ?_⟩
  cases c with
  | false => exact ⟨ρ, s1, own, S1, h1⟩
  | true => exact h1 H1 (.bl true) (.refl _) S1.src rfl
theorem px_ite (hc : PTX X F c fc) (ha : PX X F a fa) (hb : PX X F b fb) : PX X F (.IfExp c a b pos) (E.ite fc fa fb) := by
  refine PE.imp (pe_ifExp hc ha hb) fun σ H Q ⟨ρ, s, own, S, q⟩ => ?_
  refine TEx.mono (TEx.cond (k := fun c s1 => if c = true then fa ρ s1 else fb ρ s1) S q) fun v H1 ⟨c, s1, e, S1, x1, h1⟩ => ⟨c, e, ?_⟩
  cases c with
  | true => exact ⟨ρ, s1, own, S1, h1⟩
  | false => exact ⟨ρ, s1, own, S1, h1⟩
/-- a <= b < c -/
def E.chain (f g : PV → Tag → PV → Tag → Option (PV × Tag)) (a b c : EE) : EE := fun ρ s =>
  (a ρ s).bind fun p => (b ρ p.2.2).bind fun q => match f p.1 p.2.1 q.1 q.2.1 with
    | some (.bl true, _) => (c ρ q.2.2).bind fun r => match g q.1 q.2.1 r.1 r.2.1 with
      | some z => .ok (z.1, z.2, r.2.2)
      | none => .err
    | some (.bl false, _) => .ok (.bl false, .cl, q.2.2)
    | _ => .err
theorem chain_step {r r' : R2} {f g : PV → Tag → PV → Tag → Option (PV × Tag)} (hr : OpSem F r f) (hr' : OpSem F r' g) {σ : L2.St} {H : Hp} {Q : VK} (h : TEx F (E.chain f g fa fb fc) σ H Q) : tChain r r' (TEx F fa) (TEx F fb) (TEx F fc) σ H Q := by
  obtain ⟨ρ, s, own, S, h⟩ := h
  unfold E.chain at h
  refine TEx.mono (TEx.step S h) fun v1 H1 ⟨x, tx, s1, e1, S1, vt1, x1, h1⟩ => ?_
  refine TEx.mono (TEx.step S1 h1) fun v2 H2 ⟨y, ty, s2, e2, S2, vt2, x2, h2⟩ => ?_
  dsimp only at h2
  have W1 := VT.ext S S1 vt1 x2
  have W2 := VT.back S S1 x1 vt2
  split at h2
  · rename_i t0 ef
    refine hr own σ ρ s s2 H H2 v1 v2 x tx y ty _ _ _ S (x1.trans x2) S2 W1 W2 ef fun H3 v3 x3 sa3 vt3 => ?_
    have S3 := S2.ext x3 sa3
    refine ⟨true, VT.view S2 vt3, ?_⟩
    rw [if_pos rfl]
    have h3 := Out.back S2 S3 x3 h2
    refine TEx.mono (TEx.step S3 h3) fun v4 H4 ⟨z, tz, s4, e4, S4, vt4, x4, h4⟩ => ?_
    dsimp only at h4
    cases eg : g y ty z tz with
    | none => rw [eg] at h4; exact h4.elim
    | some u =>
      obtain ⟨u, tu⟩ := u
      rw [eg] at h4
      exact hr' own σ ρ s s4 H H4 v2 v4 y ty z tz u tu Q S ((x1.trans x2).trans (x3.trans x4)) S4 (VT.ext S S2 W2 (x3.trans x4)) (VT.back S S3 ((x1.trans x2).trans x3) vt4) eg h4
  · rename_i t0 ef
    refine hr own σ ρ s s2 H H2 v1 v2 x tx y ty _ _ _ S (x1.trans x2) S2 W1 W2 ef fun H3 v3 x3 sa3 vt3 => ?_
    refine ⟨false, VT.view S2 vt3, ?_⟩
    rw [if_neg Bool.false_ne_true]
    exact h2 H3 (.bl false) x3 sa3 rfl
  · exact h2.elim
theorem px_chain {op op' : CmpOp} {r r' : R2} {f g : PV → Tag → PV → Tag → Option (PV × Tag)} (ho : OpR X (compareOp op) r) (hr : OpSem F r f) (ho' : OpR X (compareOp op') r') (hr' : OpSem F r' g) (ha : PX X F a fa) (hb : PX X F b fb) (hc : PX X F c fc)
    (hm' : lastMarks [op, op'] [b, c] = false := by rfl) : PX X F (.Compare a [op, op'] [b, c] pos) (E.chain f g fa fb fc) := PE.imp (pe_chain ho ho' ha hb hc hm') fun _ _ _ h => chain_step hr hr' h
theorem ptx_chain {op op' : CmpOp} {r r' : R2} {f g : PV → Tag → PV → Tag → Option (PV × Tag)} (ho : OpR X (compareOp op) r) (hr : OpSem F r f) (ho' : OpR X (compareOp op') r') (hr' : OpSem F r' g) (ha : PX X F a fa) (hb : PX X F b fb) (hc : PX X F c fc)
    (hm' : lastMarks [op, op'] [b, c] = false := by rfl) : PTX X F (.Compare a [op, op'] [b, c] pos) (E.chain f g fa fb fc) := PT.imp (pt_chain ho ho' ha hb hc hm') fun _ _ _ h => chain_step hr hr' h
theorem ptx_cmp {op : CmpOp} {r : R2} {f : PV → Tag → PV → Tag → Option (PV × Tag)} (ho : OpR X (compareOp op) r) (hr : OpSem F r f) (ha : PX X F a fa) (hb : PX X F b fb) (hm : behindInMarks op b = false := by first | exact nomark _ | rfl) : PTX X F (.Compare a [op] [b] pos) (E.bin f fa fb) :=
  PT.imp (pt_cmpR ho ha hb hm) fun _ _ _ h => two_step hr h
theorem ptx_lt (ha : PX X F a fa) (hb : PX X F b fb) : PTX X F (.Compare a [.Lt] [b] pos) (E.bin ltF fa fb) := ptx_cmp op_lt sem_cmp ha hb
theorem ptx_le (ha : PX X F a fa) (hb : PX X F b fb) : PTX X F (.Compare a [.LtE] [b] pos) (E.bin leF fa fb) := ptx_cmp op_le sem_cmp ha hb
theorem ptx_gt (ha : PX X F a fa) (hb : PX X F b fb) : PTX X F (.Compare a [.Gt] [b] pos) (E.bin gtF fa fb) := ptx_cmp op_gt sem_cmp ha hb
theorem ptx_ge (ha : PX X F a fa) (hb : PX X F b fb) : PTX X F (.Compare a [.GtE] [b] pos) (E.bin geF fa fb) := ptx_cmp op_ge sem_cmp ha hb
theorem ptx_eq {k : Nat} (hr : Room k X.A) (ha : PX X F a fa) (hb : PX X F b fb) (hK : F.g.K = X.K := by rfl) : PTX X F (.Compare a [.Eq] [b] pos) (E.bin (eqF false) fa fb) := ptx_cmp (r := rEqD X.K) (op_eqD hr.units) (hK ▸ sem_eq) ha hb
theorem ptx_ne {k : Nat} (hr : Room k X.A) (ha : PX X F a fa) (hb : PX X F b fb) (hK : F.g.K = X.K := by rfl) : PTX X F (.Compare a [.NotEq] [b] pos) (E.bin (eqF true) fa fb) := ptx_cmp (r := rNeD X.K) (op_neD hr.units) (hK ▸ sem_ne) ha hb
theorem ptx_is (ha : PX X F a fa) (hb : PX X F b fb) : PTX X F (.Compare a [.Is] [b] pos) (E.bin (isNF false) fa fb) := ptx_cmp op_isN sem_isN ha hb
theorem ptx_isNot (ha : PX X F a fa) (hb : PX X F b fb) : PTX X F (.Compare a [.IsNot] [b] pos) (E.bin (isNF true) fa fb) := ptx_cmp op_notN sem_notN ha hb
theorem ptx_in {k : Nat} (hr : Room k X.A) (ha : PX X F a fa) (hb : PX X F b fb) (hm : behindInMarks .In b = false := by rfl) (hK : F.g.K = X.K := by rfl) : PTX X F (.Compare a [.In] [b] pos) (E.bin (inF false) fa fb) := ptx_cmp (r := rInP X.K false) (op_inP (units65 hr)) (hK ▸ sem_in) ha hb hm
theorem ptx_notIn {k : Nat} (hr : Room k X.A) (ha : PX X F a fa) (hb : PX X F b fb) (hm : behindInMarks .NotIn b = false := by rfl) (hK : F.g.K = X.K := by rfl) : PTX X F (.Compare a [.NotIn] [b] pos) (E.bin (inF true) fa fb) := ptx_cmp (r := rInP X.K true) (op_notInP (units65 hr)) (hK ▸ sem_in) ha hb hm
end

/-! ### displays -/
def dispTag (xs : List (PV × Tag)) : Tag := if xs.all (fun p => p.2.clean) then .cl else if flats (xs.map (·.1)) then .cl else .di
def E.tup (f : EEs) : EE := fun ρ s => match f ρ s with
  | .ok (xs, s1) => if xs.length ≤ sizeLine then .ok (.tup (xs.map (·.1)), dispTag xs, s1) else .err
  | .exc n s1 => .exc n s1
  | .err => .err
def E.lst (f : EEs) : EE := fun ρ s => match f ρ s with
  | .ok (xs, s1) => if xs.length ≤ sizeLine ∧ (xs.all (fun p => p.2.clean) || flats (xs.map (·.1))) = true then .ok (.lst (xs.map (·.1)), .fr, s1) else .err
  | .exc n s1 => .exc n s1
  | .err => .err
section
variable {X : Cx} {F : Fr} {es : List Expr} {fs : EEs} {pos : Pos} {own : Nat → Option Addr} {σ : L2.St} {H H0 H1 : Hp} {ρ : EnvP} {s s1 : Src} {Q : VK}
theorem VTs.length : ∀ {ps : List (PV × Tag)} {vs : List V}, VTs F own H0 H1 ps vs → ps.length = vs.length
  | [], _, h => by cases (show _ = [] from h); rfl
  | _ :: _, _, h => by
    obtain ⟨v, r, e, _, h2⟩ := h
    subst e
    simp [VTs.length h2]
theorem VTs.clean (S : SR F own σ H0 ρ s) {ps : List (PV × Tag)} {vs : List V} (h : VTs F own H0 H1 ps vs) (c : (ps.all (fun p => p.2.clean) || flats (ps.map (·.1))) = true) : Views F.g F.L H1 (Bo F own) (ps.map (·.1)) vs := by
  rcases Bool.or_eq_true_iff.mp c with c | c
  · exact VTs.cl S c h
  · exact VTs.flat S c h
/-- an argument list, then the rest -/
theorem TAx.step {k : List (PV × Tag) → Src → Res Rv} (S : SR F own σ H ρ s) (h : Out F own H (match fs ρ s with
    | .ok (xs, s1) => k xs s1
    | .exc n s1 => .exc n s1
    | .err => .err) Q) : TAx F fs σ H fun vs H1 => ∃ xs s1, SR F own σ H1 ρ s1 ∧ VTs F own H H1 xs vs ∧ Ext F.L H H1 ∧ Out F own H1 (k xs s1) Q := by
  refine ⟨ρ, s, own, S, ?_⟩
  cases e : fs ρ s with
  | exc n s' => rw [e] at h; exact h
  | err => rw [e] at h; exact h
  | ok p =>
    obtain ⟨xs, s1⟩ := p
    rw [e] at h
    intro H1 vs x sa vt
    have S1 := S.ext x sa
    exact ⟨xs, s1, S1, vt, x, Out.back S S1 x h⟩
theorem TAx.mono {Q Q' : List V → Hp → Prop} (h : TAx F fs σ H Q) (i : ∀ v H', Q v H' → Q' v H') : TAx F fs σ H Q' := by
  obtain ⟨ρ, s, own, S, h⟩ := h
  refine ⟨ρ, s, own, S, ?_⟩
  cases e : fs ρ s with
  | exc n s' => rw [e] at h; exact h
  | err => rw [e] at h; exact h
  | ok p => rw [e] at h; exact fun H' v a b c => i _ _ (h H' v a b c)
theorem px_tup {k : Nat} (ha : PXs X F es fs) : PX X F (.Tuple es k pos) (E.tup fs) := by
  refine PE.imp (pe_tup ha) fun σ H Q ⟨ρ, s, own, S, h⟩ => ?_
  unfold E.tup at h
  refine TAx.mono (TAx.step (k := fun xs s1 => if xs.length ≤ sizeLine then .ok (.tup (xs.map (·.1)), dispTag xs, s1) else .err) S h) fun vs H1 ⟨xs, s1, S1, vt, x, h1⟩ => ?_
  split at h1
  · rename_i hl
    rw [vt.length] at hl
    refine ⟨hl, ?_⟩
    unfold dispTag at h1
    split at h1
    · rename_i hc
      exact done_tup S1 h1 hl (VTs.cl S hc vt)
    · split at h1
      · rename_i hc
        exact done_tup S1 h1 hl (VTs.flat S hc vt)
      · exact done_tupD S1 h1 hl (VTs.views S vt)
  · exact h1.elim
theorem px_lst (ha : PXs X F es fs) : PX X F (.List es pos) (E.lst fs) := by
  refine PE.imp (pe_lst ha) fun σ H Q ⟨ρ, s, own, S, h⟩ => ?_
  unfold E.lst at h
  refine TAx.mono (TAx.step (k := fun xs s1 => if xs.length ≤ sizeLine ∧ (xs.all (fun p => p.2.clean) || flats (xs.map (·.1))) = true then .ok (.lst (xs.map (·.1)), .fr, s1) else .err) S h) fun vs H1 ⟨xs, s1, S1, vt, x, h1⟩ => ?_
  split at h1
  · rename_i hl
    obtain ⟨hl, hc⟩ := hl
    rw [vt.length] at hl
    exact ⟨hl, done_lst S1 h1 hl (VTs.clean S vt hc)⟩
  · exact h1.elim
/-- a star in a display or call: its items -/
def E.star (f : EE) (r : EEs) : EEs := fun ρ s => match f ρ s with
  | .ok (x, tx, s1) => match x with
    | .tup xs => match r ρ s1 with
      | .ok (ys, s2) => .ok (xs.map (fun z => (z, tx.item)) ++ ys, s2)
      | .exc n s2 => .exc n s2
      | .err => .err
    | .lst xs => match r ρ s1 with
      | .ok (ys, s2) => .ok (xs.map (fun z => (z, tx.item)) ++ ys, s2)
      | .exc n s2 => .exc n s2
      | .err => .err
    | _ => .err
  | .exc n s1 => .exc n s1
  | .err => .err
theorem VTs.of_items {t : Tag} (ht : t = .di ∨ t = .cl) : ∀ {xs : List PV} {ys : List V}, Views F.g F.L H1 (if t.clean then Bo F own else F.B) xs ys → VTs F own H0 H1 (xs.map fun z => (z, t)) ys
  | [], _, h => h
  | x :: xs, _, h => by
    obtain ⟨y, r, e, h1, h2⟩ := h
    refine ⟨y, r, e, ?_, VTs.of_items ht h2⟩
    rcases ht with rfl | rfl
    · exact h1
    · exact h1
theorem VTs.append : ∀ {xs : List (PV × Tag)} {ys : List V} {xs' : List (PV × Tag)} {ys' : List V}, VTs F own H0 H1 xs ys → VTs F own H0 H1 xs' ys' → VTs F own H0 H1 (xs ++ xs') (ys ++ ys')
  | [], _, _, _, h, h' => by cases (show _ = [] from h); exact h'
  | x :: xs, _, _, _, h, h' => by
    obtain ⟨y, r, e', h1, h2⟩ := h
    subst e'
    exact ⟨y, _, rfl, h1, VTs.append h2 h'⟩
theorem Tag.item_or (t : Tag) : t.item = .di ∨ t.item = .cl := by cases t <;> simp [Tag.item]
theorem pxs_star {e : Expr} {p : Pos} {fe : EE} {fr : EEs} (he : PX X F e fe) (hr : PXs X F es fr) (hK : F.g.K = X.K := by rfl) (hs : starEach (.Starred e p :: es) X.env = (true, eval e X.env) :: starEach es X.env := by rfl) : PXs X F (.Starred e p :: es) (E.star fe fr) := by
  refine PA.imp (StX.pa_star he hr hs) fun σ H Q ⟨ρ, s, own, S, h⟩ => ?_
  refine ⟨ρ, s, own, S, ?_⟩
  unfold E.star at h
  cases e1 : fe ρ s with
  | exc n s' => rw [e1] at h; exact h
  | err => rw [e1] at h; exact h
  | ok q =>
    obtain ⟨x, tx, s1⟩ := q
    rw [e1] at h
    intro H1 v x1 sa1 vt1
    have S1 := S.ext x1 sa1
    have main : ∀ {xs : List PV}, (x = .tup xs ∨ x = .lst xs) → OutA F own H (match fr ρ s1 with
        | .ok (ys, s2) => .ok (xs.map (fun z => (z, tx.item)) ++ ys, s2)
        | .exc n s2 => .exc n s2
        | .err => .err) Q → ∃ p xs, v = V.ref p ∧ (SqT X.K H1 p xs ∨ SqL X.K H1 p xs) ∧ TAx F fr σ H1 fun ys H2 => Q (xs ++ ys) H2 := fun {xs} hx h => by
      have key : ∃ a zs, v = .ref a ∧ (SqT X.K H1 a zs ∨ SqL X.K H1 a zs) ∧ VTs F own H H1 (xs.map fun z => (z, tx.item)) zs := by
        by_cases ht : tx = .di
        · subst ht
          obtain ⟨a, ys, ea, hst, hsl, hl, hv⟩ := VT.itemsB S vt1 hx
          refine ⟨a, ys, ea, ?_, VTs.of_items (.inl rfl) hv⟩
          rcases hx with rfl | rfl
          · exact .inl (hK ▸ hst rfl)
          · exact .inr (SqL.of (hsl rfl))
        · obtain ⟨a, ys, ea, _, hst, hsl, hl, hv⟩ := VT.items S vt1 hx ht
          rw [Tag.item_ne ht]
          refine ⟨a, ys, ea, ?_, VTs.of_items (.inr rfl) hv⟩
          rcases hx with rfl | rfl
          · exact .inl (hK ▸ hst rfl)
          · exact .inr (SqL.of (hsl rfl))
      obtain ⟨a, zs, ea, hs, hz⟩ := key
      refine ⟨a, zs, ea, hs, ρ, s1, own, S1, ?_⟩
      cases e2 : fr ρ s1 with
      | exc n s' =>
        rw [e2] at h
        exact fun H' x y => h H' (x1.trans x) y
      | err => rw [e2] at h; exact h
      | ok q =>
        obtain ⟨ys, s2⟩ := q
        rw [e2] at h
        intro H2 vs x2 sa2 vt2
        refine h H2 (zs ++ vs) (x1.trans x2) sa2 (.append ?_ (VTs.back S S1 x1 vt2))
        have ext : ∀ {ps : List (PV × Tag)} {ws : List V}, VTs F own H H1 ps ws → VTs F own H H2 ps ws := fun {ps} => by
          induction ps with
          | nil => intro ws h; exact h
          | cons p ps ih =>
            intro ws h
            obtain ⟨v, r, e, h1, h2⟩ := h
            exact ⟨v, r, e, VT.ext S S1 h1 x2, ih h2⟩
        exact ext hz
    dsimp only at h
    split at h
    · exact main (.inl rfl) h
    · exact main (.inr rfl) h
    · exact h.elim
end
end EV
set_option Elab.async false
set_option linter.all false
set_option maxRecDepth 100000
/-! The pure reading of calls: of built-ins, of defs. -/
namespace EV
open PySem PySem.Spec L2

def CallSem (F : Fr) (r : List V → Hp → VK → Prop) (f : List (PV × Tag) → Option (PV × Tag)) : Prop :=
  ∀ (own : Nat → Option Addr) (σ : L2.St) (ρ : EnvP) (s0 s : Src) (H0 H : Hp) (vs : List V) (xs : List (PV × Tag)) (z : PV) (t : Tag) (Q : VK), SR F own σ H0 ρ s0 → Ext F.L H0 H → SR F own σ H ρ s → VTs F own H0 H xs vs → f xs = some (z, t) →
    (∀ H' v, Ext F.L H H' → SrcAt F.L H' s → VT F own H H' t z v → Q v H') → r vs H Q
def E.callB (f : List (PV × Tag) → Option (PV × Tag)) (a : EEs) : EE := fun ρ s => match a ρ s with
  | .ok (xs, s1) => match f xs with
    | some z => .ok (z.1, z.2, s1)
    | none => .err
  | .exc n s1 => .exc n s1
  | .err => .err
section
variable {X : Cx} {F : Fr} {e : Expr} {es : List Expr} {fs : EEs} {p pos : Pos} {x : Str} {id T : String} {r : List V → Hp → VK → Prop} {f : List (PV × Tag) → Option (PV × Tag)}
theorem call_step (hr : CallSem F r f) {σ : L2.St} {H : Hp} {Q : VK} (h : TEx F (E.callB f fs) σ H Q) : tCB r (TAx F fs) σ H Q := by
  obtain ⟨ρ, s, own, S, h⟩ := h
  unfold E.callB at h
  refine TAx.mono (TAx.step (k := fun xs s1 => match f xs with
    | some z => .ok (z.1, z.2, s1)
    | none => .err) S h) fun vs H1 ⟨xs, s1, S1, vt, x, h1⟩ => ?_
  cases e : f xs with
  | none => rw [e] at h1; exact h1.elim
  | some z =>
    obtain ⟨z, t⟩ := z
    rw [e] at h1
    exact hr own σ ρ s s1 H H1 vs xs z t Q S x S1 vt e h1
theorem px_callB (hc : CallR X (.builtin id) r) (hr : CallSem F r f) (hm : X.mg x = none) (hv : bootBuiltins x = some (.builtin id)) (ha : PXs X F (e :: es) fs) (hg : Gl X x := by rfl) (hn : x ≠ "__name__" := by decide) (hdb : (x == ("__debug__" : Str)) = false := by decide)
    (he : starEach (e :: es) X.env = (false, eval e X.env) :: starEach es X.env := by rfl) (hpl : (backTo pos (starEach es X.env)).any (·.1) = false := by rfl) : PX X F (.Call (.Name x p) (e :: es) [] pos) (E.callB f fs) :=
  PE.imp (pe_callB hc hg hm hv ha hn hdb he hpl) fun _ _ _ h => call_step hr h
theorem px_callTy (hc : CallR X (.type T) r) (hr : CallSem F r f) (hm : X.mg x = none) (hv : bootBuiltins x = some (.type T)) (ha : PXs X F (e :: es) fs) (hg : Gl X x := by rfl) (hn : x ≠ "__name__" := by decide) (hdb : (x == ("__debug__" : Str)) = false := by decide)
    (he : starEach (e :: es) X.env = (false, eval e X.env) :: starEach es X.env := by rfl) (hpl : (backTo pos (starEach es X.env)).any (·.1) = false := by rfl) : PX X F (.Call (.Name x p) (e :: es) [] pos) (E.callB f fs) :=
  PE.imp (pe_callTy hc hg hm hv ha hn hdb he hpl) fun _ _ _ h => call_step hr h
end

/-! ### len -/
def lenF : List (PV × Tag) → Option (PV × Tag)
  | [(.tup xs, _)] => some (.int xs.length, .cl)
  | [(.lst xs, _)] => some (.int xs.length, .cl)
  | [(.str x, _)] => some (.int x.length, .cl)
  | [(.dK ks _, _)] => some (.int ks.length, .cl)
  | _ => none
def rLenP (K : PySem.W.Frag) : List V → Hp → VK → Prop := fun xs H Q => (∃ x n, xs = [x] ∧ LenV K x H n ∧ Q (.int n) H) ∨ ∃ a kvs, xs = [V.ref a] ∧ H a = some (.dK kvs) ∧ Q (.int kvs.length) H
theorem call_lenP {X : Cx} : CallR X (.builtin "len") (rLenP X.K) := .or call_len call_lenD
theorem sem_len {F : Fr} : CallSem F (rLenP F.g.K) lenF := by
  intro own σ ρ s0 s H0 H vs xs z t Q S0 x0 S h1 e h
  unfold lenF at e
  split at e
  · cases e
    obtain ⟨v, rfl, k1⟩ := h1.inv1
    obtain ⟨a, ys, rfl, hs, _, hl, hv⟩ := VT.itemsB S0 k1 (.inl rfl)
    exact .inl ⟨_, _, rfl, .inr ⟨ys, hs rfl, hv.length⟩, done_flat S h rfl⟩
  · cases e
    obtain ⟨v, rfl, k1⟩ := h1.inv1
    obtain ⟨a, ys, rfl, _, hs, hl, hv⟩ := VT.itemsB S0 k1 (.inr rfl)
    exact .inl ⟨_, _, rfl, .inl ⟨ys, SqL.of (hs rfl), hv.length⟩, done_flat S h rfl⟩
  · cases e
    obtain ⟨v, rfl, k1⟩ := h1.inv1
    obtain ⟨rfl, hl⟩ := VT.view S0 k1
    exact .inl ⟨_, _, rfl, ⟨hl, rfl⟩, done_flat S h rfl⟩
  · cases e
    obtain ⟨v, rfl, k1⟩ := h1.inv1
    obtain ⟨a, ys, rfl, _, hs, hk, _⟩ := VT.view S0 k1
    exact .inr ⟨a, _, rfl, hs, done_flat S h (by show V.int _ = V.int _; rw [List.length_zip]; congr 2; omega)⟩
  · cases e

/-! ### isinstance -/
inductive Ty where
  | int | bool | str | tuple | list | dict
def Ty.nm : Ty → String
  | .int => "int"
  | .bool => "bool"
  | .str => "str"
  | .tuple => "tuple"
  | .list => "list"
  | .dict => "dict"
def isT : Ty → PV → Option Bool
  | t, .non => some false
  | .int, .bl _ => some true
  | .bool, .bl _ => some true
  | t, .bl _ => some false
  | .int, .int _ => some true
  | t, .int _ => some false
  | .str, .str _ => some true
  | t, .str _ => some false
  | .tuple, .tup _ => some true
  | t, .tup _ => some false
  | .list, .lst _ => some true
  | t, .lst _ => some false
  | .dict, .dK _ _ => some true
  | t, .dK _ _ => some false
  | _, _ => none
theorem kit_all : ∀ t : Ty, kitB "NoneType" t.nm = some false ∧ kitB "bool" t.nm = isT t (.bl true) ∧ kitB "int" t.nm = isT t (.int 0) ∧ kitB "str" t.nm = isT t (.str ⟨#[]⟩) ∧ kitB "tuple" t.nm = isT t (.tup []) ∧ kitB "list" t.nm = isT t (.lst []) ∧ kitB "dict" t.nm = isT t (.dK [] [])
  | .int => by decide +kernel
  | .bool => by decide +kernel
  | .str => by decide +kernel
  | .tuple => by decide +kernel
  | .list => by decide +kernel
  | .dict => by decide +kernel
def rIsiP (K : PySem.W.Frag) : List V → Hp → VK → Prop := fun xs H Q => ∃ (x : V) (T T' : String) (b : Bool), xs = [x, .ty T'] ∧ TyX K H x (.type T) ∧ kitB T T' = some b ∧ Q (.bl b) H
theorem call_isiP {X : Cx} : CallR X (.builtin "isinstance") (rIsiP X.K) := by
  intro pins s σ H xs us Q I r ⟨x, T, T', b, e, ty, hk, q⟩
  exact call_isi pins s σ H xs us Q I r ⟨x, .ty T', .type T, .type T', b, e, .ty T', ty, kit_ty hk, q⟩
theorem tyX_of {g : Gm} {L : Option (Addr × Addr)} {H : Hp} {B : Addr → Prop} {x : PV} {v : V} {t : Ty} {b : Bool} (h : View g L H B x v) (e : isT t x = some b) : ∃ T, TyX g.K H v (.type T) ∧ kitB T t.nm = some b := by
  obtain ⟨k0, k1, k2, k3, k4, k5, k6⟩ := kit_all t
  cases x with
  | non =>
    cases (show v = .non from h)
    refine ⟨_, .base .non, ?_⟩
    rw [k0]; cases t <;> exact e
  | bl c =>
    cases (show v = .bl c from h)
    refine ⟨_, .base (.bl c), ?_⟩
    rw [k1]; cases t <;> exact e
  | int c =>
    cases (show v = .int c from h)
    refine ⟨_, .base (.int c), ?_⟩
    rw [k2]; cases t <;> exact e
  | str c =>
    cases h.1
    refine ⟨_, .base (.str c), ?_⟩
    rw [k3]; cases t <;> exact e
  | tup xs =>
    obtain ⟨a, ys, rfl, hs, _⟩ := h
    refine ⟨"tuple", ?_, by rw [k4]; cases t <;> exact e⟩
    rcases hs with (hs | ⟨o, hs⟩) | ⟨o, its, n, hk, hc, _⟩
    · exact .base (.tup hs)
    · exact .fTuple hs
    · exact .kTuple hk hc
  | lst xs =>
    obtain ⟨a, ys, rfl, _, hs, _⟩ := h
    exact ⟨"list", .base (.lst hs), by rw [k5]; cases t <;> exact e⟩
  | dK ks xs =>
    obtain ⟨a, ys, rfl, _, hs, _⟩ := h
    exact ⟨"dict", .base (.dK hs), by rw [k6]; cases t <;> exact e⟩
  | src => cases t <;> simp [isT] at e
  | fn i => cases t <;> simp [isT] at e
def E.isi (t : Ty) (a : EE) : EE := fun ρ s => (a ρ s).bind fun p => match isT t p.1 with
  | some b => .ok (.bl b, .cl, p.2.2)
  | none => .err
theorem px_isi {X : Cx} {F : Fr} {a : Expr} {fa : EE} {p q pos : Pos} (t : Ty) (ha : PX X F a fa) {ty : Str} (hm : X.mg "isinstance" = none) (hmt : X.mg ty = none) (hv : bootBuiltins ty = some (.type t.nm)) (hK : F.g.K = X.K := by rfl)
    (hg : Gl X "isinstance" := by rfl) (hgt : Gl X ty := by rfl) (hn : ty ≠ "__name__" := by decide) (hdb : (ty == ("__debug__" : Str)) = false := by decide) (hv0 : bootBuiltins "isinstance" = some (.builtin "isinstance") := by decide +kernel)
    (he : starEach [a, .Name ty q] X.env = (false, eval a X.env) :: starEach [.Name ty q] X.env := by rfl) (he2 : starEach [.Name ty q] X.env = (false, eval (.Name ty q) X.env) :: starEach [] X.env := by rfl) (hpl : (backTo pos (starEach [.Name ty q] X.env)).any (·.1) = false := by rfl) :
    PX X F (.Call (.Name "isinstance" p) [a, .Name ty q] [] pos) (E.isi t fa) := by
  refine PE.imp (pe_callB call_isiP hg hm hv0 (pa_cons ha (pa_cons (pe_bltn (v := .ty t.nm) hgt hmt hv rfl hn hdb) pa_nil he2) he) (by decide) (by decide) he hpl) fun σ H Q ⟨ρ, s, own, S, h⟩ => ?_
  unfold E.isi at h
  refine TEx.mono (TEx.step S h) fun v H1 ⟨x, tx, s1, e1, S1, vt1, x1, h1⟩ => ?_
  dsimp only at h1
  cases e : isT t x with
  | none => rw [e] at h1; exact h1.elim
  | some b =>
    rw [e] at h1
    obtain ⟨T, ty1, k⟩ := tyX_of (VT.view S vt1) e
    exact ⟨v, T, t.nm, b, rfl, hK ▸ ty1, k, h1 H1 _ (.refl _) S1.src rfl⟩

/-! ### sums, all, any -/
def intsOf : List PV → Option (List Int)
  | [] => some []
  | .int i :: xs => (intsOf xs).map (i :: ·)
  | _ => none
def blsOf : List PV → Option (List Bool)
  | [] => some []
  | .bl i :: xs => (blsOf xs).map (i :: ·)
  | _ => none
def strsOf : List PV → Option (List Str)
  | [] => some []
  | .str i :: xs => (strsOf xs).map (i :: ·)
  | _ => none
section
variable {g : Gm} {L : Option (Addr × Addr)} {H : Hp} {B : Addr → Prop}
theorem intsOf_eq : ∀ {xs : List PV} {ns : List Int}, intsOf xs = some ns → xs = ns.map PV.int
  | [], _, e => by cases e; rfl
  | x :: xs, ns, e => by
    cases x <;> simp only [intsOf] at e <;> try cases e
    obtain ⟨ms, e1, rfl⟩ := Option.map_eq_some_iff.mp e
    rw [intsOf_eq e1]; rfl
theorem blsOf_eq : ∀ {xs : List PV} {ns : List Bool}, blsOf xs = some ns → xs = ns.map PV.bl
  | [], _, e => by cases e; rfl
  | x :: xs, ns, e => by
    cases x <;> simp only [blsOf] at e <;> try cases e
    obtain ⟨ms, e1, rfl⟩ := Option.map_eq_some_iff.mp e
    rw [blsOf_eq e1]; rfl
theorem strsOf_eq : ∀ {xs : List PV} {ns : List Str}, strsOf xs = some ns → xs = ns.map PV.str
  | [], _, e => by cases e; rfl
  | x :: xs, ns, e => by
    cases x <;> simp only [strsOf] at e <;> try cases e
    obtain ⟨ms, e1, rfl⟩ := Option.map_eq_some_iff.mp e
    rw [strsOf_eq e1]; rfl
theorem Views.ints : ∀ {ns : List Int} {ys : List V}, Views g L H B (ns.map PV.int) ys → ys = ns.map V.int
  | [], _, h => h
  | n :: ns, _, h => by
    obtain ⟨y, r, rfl, h1, h2⟩ := h
    rw [show y = V.int n from h1, Views.ints h2]; rfl
theorem Views.of_ints : ∀ (ns : List Int), Views g L H B (ns.map PV.int) (ns.map V.int)
  | [] => rfl
  | n :: ns => ⟨_, _, rfl, rfl, Views.of_ints ns⟩
theorem Views.bls : ∀ {ns : List Bool} {ys : List V}, Views g L H B (ns.map PV.bl) ys → ys = ns.map V.bl
  | [], _, h => h
  | n :: ns, _, h => by
    obtain ⟨y, r, rfl, h1, h2⟩ := h
    rw [show y = V.bl n from h1, Views.bls h2]; rfl
theorem Views.strs : ∀ {ns : List Str} {ys : List V}, Views g L H B (ns.map PV.str) ys → ys = ns.map V.str ∧ ∀ x ∈ ns, x.length ≤ sizeLine
  | [], _, h => ⟨h, by simp⟩
  | n :: ns, _, h => by
    obtain ⟨y, r, rfl, h1, h2⟩ := h
    obtain ⟨e, l⟩ := Views.strs h2
    rw [h1.1, e]
    exact ⟨rfl, fun x hx => by
      rcases List.mem_cons.mp hx with rfl | hx
      · exact h1.2
      · exact l x hx⟩
theorem Views.of_strs : ∀ (ns : List Str), (∀ x ∈ ns, x.length ≤ sizeLine) → Views g L H B (ns.map PV.str) (ns.map V.str)
  | [], _ => rfl
  | n :: ns, l => ⟨_, _, rfl, ⟨rfl, l n (by simp)⟩, Views.of_strs ns fun x hx => l x (by simp [hx])⟩
end
/-- a list of the things that f takes -/
def onL (f : List PV → Option (PV × Tag)) : List (PV × Tag) → Option (PV × Tag)
  | [(.lst xs, _)] => f xs
  | _ => none
def sumF : List (PV × Tag) → Option (PV × Tag) := onL fun xs => (intsOf xs).map fun ns => (.int ns.sum, .cl)
def allF : List (PV × Tag) → Option (PV × Tag) := onL fun xs => (blsOf xs).map fun ns => (.bl (ns.all id), .cl)
def anyF : List (PV × Tag) → Option (PV × Tag) := onL fun xs => (blsOf xs).map fun ns => (.bl (ns.any id), .cl)
theorem onL_inv {F : Fr} {own : Nat → Option Addr} {σ : L2.St} {ρ : EnvP} {s : Src} {H0 H : Hp} {vs : List V} {xs : List (PV × Tag)} {z : PV × Tag} {f : List PV → Option (PV × Tag)} (S0 : SR F own σ H0 ρ s) (h : VTs F own H0 H xs vs) (e : onL f xs = some z) :
    ∃ zs a ys, f zs = some z ∧ vs = [.ref a] ∧ H a = some (.lst ys) ∧ ys.length ≤ sizeLine ∧ Views F.g F.L H F.B zs ys := by
  unfold onL at e
  split at e
  · obtain ⟨v, rfl, h1⟩ := h.inv1
    obtain ⟨a, ys, rfl, _, hs, hl, hv⟩ := VT.itemsB S0 h1 (.inr rfl)
    exact ⟨_, a, ys, e, rfl, hs rfl, hl, hv⟩
  · cases e
theorem sem_sum {F : Fr} : CallSem F (rSum F.g.K) sumF := by
  intro own σ ρ s0 s H0 H vs xs z t Q S0 x0 S h1 e h
  obtain ⟨zs, a, ys, e, rfl, hs, hl, hv⟩ := onL_inv S0 h1 e
  obtain ⟨ns, e1, e2⟩ := Option.map_eq_some_iff.mp e
  cases e2
  rw [intsOf_eq e1] at hv
  rw [hv.ints] at hs
  exact ⟨a, ns, rfl, SqL.of hs, done_flat S h rfl⟩
theorem sem_all {F : Fr} : CallSem F (rAll F.g.K) allF := by
  intro own σ ρ s0 s H0 H vs xs z t Q S0 x0 S h1 e h
  obtain ⟨zs, a, ys, e, rfl, hs, hl, hv⟩ := onL_inv S0 h1 e
  obtain ⟨ns, e1, e2⟩ := Option.map_eq_some_iff.mp e
  cases e2
  rw [blsOf_eq e1] at hv
  rw [hv.bls] at hs
  exact ⟨a, ns, rfl, SqL.of hs, done_flat S h rfl⟩
theorem sem_any {F : Fr} : CallSem F (rAny F.g.K) anyF := by
  intro own σ ρ s0 s H0 H vs xs z t Q S0 x0 S h1 e h
  obtain ⟨zs, a, ys, e, rfl, hs, hl, hv⟩ := onL_inv S0 h1 e
  obtain ⟨ns, e1, e2⟩ := Option.map_eq_some_iff.mp e
  cases e2
  rw [blsOf_eq e1] at hv
  rw [hv.bls] at hs
  exact ⟨a, ns, rfl, SqL.of hs, done_flat S h rfl⟩

/-! ### tuple, list -/
def tupleF : List (PV × Tag) → Option (PV × Tag)
  | [(.tup xs, t)] => some (.tup xs, t.item)
  | [(.lst xs, t)] => some (.tup xs, t.item)
  | _ => none
def rTupleP (K : PySem.W.Frag) : List V → Hp → VK → Prop := fun xs H Q => ∃ p ys, xs = [.ref p] ∧ ((SqL K H p ys ∧ ∀ l, H l = none → Q (.ref l) (upd H l (.tup ys))) ∨ (SqT K H p ys ∧ Q (.ref p) H))
theorem sem_tuple {F : Fr} : CallSem F (rTupleP F.g.K) tupleF := by
  intro own σ ρ s0 s H0 H vs xs z t Q S0 x0 S h1 e h
  unfold tupleF at e
  split at e
  · rename_i xs t0
    cases e
    obtain ⟨v, rfl, k1⟩ := h1.inv1
    have hB := VT.view S0 k1
    obtain ⟨a, ys, rfl, hs, _, hl, hv⟩ := VT.itemsB S0 k1 (.inl rfl)
    refine ⟨a, ys, rfl, .inr ⟨hs rfl, ?_⟩⟩
    refine done_item S h (fun ht => ?_) hB
    obtain ⟨a', ys', e2, _, hs', _, hl', hv'⟩ := VT.items S0 k1 (.inl rfl) ht
    cases e2
    exact ⟨a, ys', rfl, hs' rfl, hl', hv'⟩
  · rename_i xs t0
    cases e
    obtain ⟨v, rfl, k1⟩ := h1.inv1
    by_cases ht : t0 = .di
    · subst ht
      obtain ⟨a, ys, rfl, _, hs, hl, hv⟩ := VT.itemsB S0 k1 (.inr rfl)
      exact ⟨a, ys, rfl, .inl ⟨SqL.of (hs rfl), done_tupD S h hl hv⟩⟩
    · obtain ⟨a, ys, rfl, _, _, hs, hl, hv⟩ := VT.items S0 k1 (.inr rfl) ht
      rw [Tag.item_ne ht] at h
      exact ⟨a, ys, rfl, .inl ⟨SqL.of (hs rfl), done_tup S h hl hv⟩⟩
  · cases e
def listF : List (PV × Tag) → Option (PV × Tag)
  | [(.tup _, .di)] => none
  | [(.lst _, .di)] => none
  | [(.tup xs, _)] => some (.lst xs, .fr)
  | [(.lst xs, _)] => some (.lst xs, .fr)
  | _ => none
def rListP (K : PySem.W.Frag) : List V → Hp → VK → Prop := fun xs H Q => ∃ p ys, xs = [.ref p] ∧ (SqL K H p ys ∨ SqT K H p ys) ∧ ∀ l, H l = none → Q (.ref l) (upd H l (.lst ys))
theorem sem_list {F : Fr} : CallSem F (rListP F.g.K) listF := by
  intro own σ ρ s0 s H0 H vs xs z t Q S0 x0 S h1 e h
  unfold listF at e
  split at e
  · cases e
  · cases e
  · rename_i t0 ht
    cases e
    obtain ⟨v, rfl, k1⟩ := h1.inv1
    obtain ⟨a, ys, rfl, _, hs, _, hl, hv⟩ := VT.items S0 k1 (.inl rfl) (fun q => ht q)
    exact ⟨a, ys, rfl, .inr (hs rfl), done_lst S h hl hv⟩
  · rename_i t0 ht
    cases e
    obtain ⟨v, rfl, k1⟩ := h1.inv1
    obtain ⟨a, ys, rfl, _, _, hs, hl, hv⟩ := VT.items S0 k1 (.inr rfl) (fun q => ht q)
    exact ⟨a, ys, rfl, .inl (SqL.of (hs rfl)), done_lst S h hl hv⟩
  · cases e

/-! ### small numbers -/
def absF : List (PV × Tag) → Option (PV × Tag)
  | [(.int i, _)] => some (.int (if i < 0 then -i else i), .cl)
  | _ => none
theorem sem_abs {F : Fr} : CallSem F (fun xs H Q => ∃ i, xs = [.int i] ∧ Q (.int (if i < 0 then -i else i)) H) absF := by
  intro own σ ρ s0 s H0 H vs xs z t Q S0 x0 S h1 e h
  unfold absF at e
  split at e
  · cases e
    obtain ⟨v, rfl, k1⟩ := h1.inv1
    cases (show v = .int _ from VT.view S0 k1)
    exact ⟨_, rfl, done_flat S h rfl⟩
  · cases e
def intF : List (PV × Tag) → Option (PV × Tag)
  | [(.int i, _)] => some (.int i, .cl)
  | [(.bl b, _)] => some (.int (if b then 1 else 0), .cl)
  | _ => none
theorem sem_int {F : Fr} : CallSem F (fun xs H Q => (∃ i, xs = [.int i] ∧ Q (.int i) H) ∨ ∃ k, xs = [.bl k] ∧ Q (.int (if k then 1 else 0)) H) intF := by
  intro own σ ρ s0 s H0 H vs xs z t Q S0 x0 S h1 e h
  unfold intF at e
  split at e
  · cases e
    obtain ⟨v, rfl, k1⟩ := h1.inv1
    cases (show v = .int _ from VT.view S0 k1)
    exact .inl ⟨_, rfl, done_flat S h rfl⟩
  · cases e
    obtain ⟨v, rfl, k1⟩ := h1.inv1
    cases (show v = .bl _ from VT.view S0 k1)
    exact .inr ⟨_, rfl, done_flat S h rfl⟩
  · cases e
def max2F : List (PV × Tag) → Option (PV × Tag)
  | [(.int i, _), (.int j, _)] => some (.int (if j > i then j else i), .cl)
  | _ => none
def min2F : List (PV × Tag) → Option (PV × Tag)
  | [(.int i, _), (.int j, _)] => some (.int (if j < i then j else i), .cl)
  | _ => none
theorem sem_max2 {F : Fr} : CallSem F (fun xs H Q => ∃ i j, xs = [.int i, .int j] ∧ Q (.int (if j > i then j else i)) H) max2F := by
  intro own σ ρ s0 s H0 H vs xs z t Q S0 x0 S h1 e h
  unfold max2F at e
  split at e
  · cases e
    obtain ⟨v, v', rfl, k1, k2⟩ := h1.inv2
    cases (show v = .int _ from VT.view S0 k1)
    cases (show v' = .int _ from VT.view S0 k2)
    exact ⟨_, _, rfl, done_flat S h rfl⟩
  · cases e
theorem sem_min2 {F : Fr} : CallSem F (fun xs H Q => ∃ i j, xs = [.int i, .int j] ∧ Q (.int (if j < i then j else i)) H) min2F := by
  intro own σ ρ s0 s H0 H vs xs z t Q S0 x0 S h1 e h
  unfold min2F at e
  split at e
  · cases e
    obtain ⟨v, v', rfl, k1, k2⟩ := h1.inv2
    cases (show v = .int _ from VT.view S0 k1)
    cases (show v' = .int _ from VT.view S0 k2)
    exact ⟨_, _, rfl, done_flat S h rfl⟩
  · cases e

/-! ### sorted -/
def insI (n : Int) : List Int → List Int
  | [] => [n]
  | m :: ms => if n ≤ m then n :: m :: ms else m :: insI n ms
def isortI : List Int → List Int
  | [] => []
  | n :: ns => insI n (isortI ns)
theorem insI_perm (n : Int) : ∀ ms, (insI n ms).Perm (n :: ms)
  | [] => .refl _
  | m :: ms => by
    unfold insI
    split
    · exact .refl _
    · exact ((insI_perm n ms).cons m).trans (.swap n m ms)
theorem isortI_perm : ∀ ns, (isortI ns).Perm ns
  | [] => .refl _
  | n :: ns => (insI_perm n _).trans ((isortI_perm ns).cons n)
theorem insI_pw (n : Int) : ∀ {ms : List Int}, ms.Pairwise (· ≤ ·) → (insI n ms).Pairwise (· ≤ ·)
  | [], _ => by simp [insI]
  | m :: ms, h => by
    unfold insI
    have h' := List.pairwise_cons.mp h
    split
    · rename_i hn
      refine List.pairwise_cons.mpr ⟨fun x hx => ?_, h⟩
      rcases List.mem_cons.mp hx with rfl | hx
      · exact hn
      · exact Int.le_trans hn (h'.1 x hx)
    · rename_i hn
      refine List.pairwise_cons.mpr ⟨fun x hx => ?_, insI_pw n h'.2⟩
      rcases List.mem_cons.mp ((insI_perm n ms).mem_iff.mp hx) with rfl | hx
      · omega
      · exact h'.1 x hx
theorem isortI_pw : ∀ ns, (isortI ns).Pairwise (· ≤ ·)
  | [] => .nil
  | n :: ns => insI_pw n (isortI_pw ns)
theorem isortI_eq {ns ms : List Int} (p : ms.Perm ns) (h : ms.Pairwise (· ≤ ·)) : ms = isortI ns :=
  List.Perm.eq_of_pairwise (le := (· ≤ ·)) (fun a b _ _ h1 h2 => Int.le_antisymm h1 h2) h (isortI_pw ns) (p.trans (isortI_perm ns).symm)
theorem call_sortedDI2 {X : Cx} (hcalm : X.calm = true) : CallR X (.builtin "sorted") (fun xs H Q => ∃ (a : Addr) (kvs : List (Key × V)) (ks : List Int), xs = [.ref a] ∧ Rd H a (.dK kvs) ∧ kvs.map (·.1) = ks.map Sum.inl ∧
    ∀ (ys : List Int) (p : Addr), ys.Perm ks → ys.Pairwise (· ≤ ·) → H p = none → Q (.ref p) (upd H p (.lst (ys.map V.int)))) := by
  intro pins s σ H xs us Q I r q
  obtain ⟨a, kvs, ks, ex, hd, hks, q⟩ := q
  subst ex
  obtain ⟨u, eu, rx⟩ := vals1 r
  subst eu
  cases rx
  obtain ⟨z, lo, vs, rel, dd⟩ := dk_rd I.hok hd
  obtain ⟨ep, hat⟩ := dd.dictAt
  have hkeys : vs.map (·.1) = ks.map Sum.inl := rel.keys.symm.trans hks
  have hl : vs.length = ks.length := by
    have e := congrArg List.length hkeys
    rw [List.length_map, List.length_map] at e
    exact e
  have h16 : vs.length ≤ sizeLine := by rw [← rel.length]; exact z
  refine Calls.call_function_entry PyProof.Rows.kind_sorted PyProof.Rows.plain_sorted PyProof.Rows.entry_sorted (PyProof.Rows.args_sorted1 _) ?_
  unfold Builtin.«sorted»
  refine wpAny_bind (m := checkCount "sorted" 1 1 _) (wpAny_pure ?_)
  refine wpAny_bind (PySem.W.kdu_collect (A := X.A.in1) (PySem.W.kdl_dict (knd := mixKind X.prog X.w) (kvs := vs) (ep := ep) lo) (I.ok.hd hcalm) hat h16 fun h' tk acc hk hacc => ?_)
  have hal : acc.toList.length = ks.length := by rw [Array.length_toList, hacc.1, hl]
  have hS : PyProof.Rows.IntsAre acc.toList ks := ints_each hal fun j v e => by
    obtain ⟨k, x, e1, e2⟩ := hacc.2 j v (by rw [← Array.getElem?_toList]; exact e)
    have e3 : (vs.map (·.1))[j]? = some k := by rw [List.getElem?_map, e1]; rfl
    rw [hkeys, List.getElem?_map] at e3
    cases e4 : ks[j]? with
    | none => rw [e4] at e3; cases e3
    | some y =>
      rw [e4] at e3
      have e5 : Sum.inl y = k := Option.some.inj e3
      subst e5
      rcases keyIs_shape (show keyIs (Sum.inl y) v = true from e2) with ⟨i, t, ek, ev⟩ | ⟨z, t, ek, ev⟩
      · cases ek
        exact ⟨y, t, rfl, ev⟩
      · cases ek
  have I1 : Inv X pins σ H { s with heap := h', toks := tk } := I.kept hk
  have hz2 : acc.toList.length ≤ sizeLine := by rw [hal, ← hl]; exact h16
  refine wpAny_bind (wpAny_newList ?_ hz2)
  have hoL : (h'.push (PyProof.Rows.seqObj "list" acc.toList.toArray 0)).get? h'.objs.size = some (PyProof.Rows.seqObj "list" acc.toList.toArray 0) := Heap.get?_push_size _ rfl
  show wpAny _ _ _ _ _ { s with heap := h'.push (PyProof.Rows.seqObj "list" acc.toList.toArray 0), toks := tk }
  refine wpAny_bind (wpAny_holding (wpAny_call_entry PyProof.Rows.slot_list_sort ⟨_, hoL, rfl⟩ PyProof.Rows.entry_list_sort
    (SrtO.list_sort_ord (s := { s with heap := h'.push (PyProof.Rows.seqObj "list" acc.toList.toArray 0), toks := tk }) SrtO.swo_int hoL hz2 (fun h2 => SrtO.ints_sortable hS h2) fun out h1 h2 => ⟨_, rfl, ?_⟩) (PyProof.Rows.args_list_sort _)))
  obtain ⟨g1, g2, g3⟩ := SrtO.ints_out hS h1 h2
  obtain ⟨e', he'⟩ := PyProof.Rows.sortedHeap_at (vs := acc.toList) (out := out.toArray) hoL
  have hlen : ((out.map SrtO.iv).map V.int).length ≤ sizeLine := by
    rw [List.length_map, g2.length_eq, ← hl]; exact h16
  refine wpAny_pure ⟨_, rfl, .ref h'.objs.size, upd H h'.objs.size (.lst ((out.map SrtO.iv).map V.int)), I1.laid (t' := tk) (fun b u e => ?_) (Nat.le_refl _)
    (show ObjOk X.prog X.w _ _ _ (.lst ((out.map SrtO.iv).map V.int)) from ⟨hlen, out, e', vals_of_ints g1, he'⟩), rfl, q _ _ g2 g3 (I1.hok.fresh (Nat.le_refl _))⟩
  have hb : b < h'.objs.size := Heap.lt_size e
  rw [PyProof.Rows.sortedHeap_old (Nat.ne_of_lt hb) (by rw [PyProof.Rows.size_push']; exact Nat.lt_succ_of_lt hb)]
  exact Heap.get?_push_of_some _ e
def inlsOf : List Key → Option (List Int)
  | [] => some []
  | .inl i :: ks => (inlsOf ks).map (i :: ·)
  | _ => none
theorem inlsOf_eq : ∀ {ks : List Key} {ns : List Int}, inlsOf ks = some ns → ks = ns.map Sum.inl
  | [], _, e => by cases e; rfl
  | k :: ks, ns, e => by
    cases k <;> simp only [inlsOf] at e <;> try cases e
    obtain ⟨ms, e1, rfl⟩ := Option.map_eq_some_iff.mp e
    rw [inlsOf_eq e1]; rfl
def sortedF : List (PV × Tag) → Option (PV × Tag)
  | [(.lst xs, _)] => (intsOf xs).map fun ns => (.lst ((isortI ns).map .int), .fr)
  | [(.dK ks _, _)] => (inlsOf ks).map fun ns => (.lst ((isortI ns).map .int), .fr)
  | _ => none
def rSortedP (K : PySem.W.Frag) : List V → Hp → VK → Prop := fun xs H Q => rSortedI K xs H Q ∨ ∃ (a : Addr) (kvs : List (Key × V)) (ks : List Int), xs = [.ref a] ∧ Rd H a (.dK kvs) ∧ kvs.map (·.1) = ks.map Sum.inl ∧
    ∀ (ys : List Int) (p : Addr), ys.Perm ks → ys.Pairwise (· ≤ ·) → H p = none → Q (.ref p) (upd H p (.lst (ys.map V.int)))
theorem call_sortedP {X : Cx} (hc : X.calm = true) : CallR X (.builtin "sorted") (rSortedP X.K) := .or cr_sortedI (call_sortedDI2 hc)
theorem sem_sorted {F : Fr} : CallSem F (rSortedP F.g.K) sortedF := by
  intro own σ ρ s0 s H0 H vs xs z t Q S0 x0 S h1 e h
  have fin : ∀ {ns : List Int} {n : Nat}, ns.length = n → n ≤ sizeLine → z = .lst ((isortI ns).map .int) → t = .fr → ∀ (ys : List Int) (p : Addr), ys.Perm ns → ys.Pairwise (· ≤ ·) → H p = none → Q (.ref p) (upd H p (.lst (ys.map V.int))) := fun {ns n} hn hl ez et ys p hp hw n => by
    subst ez et
    have e2 := isortI_eq hp hw
    rw [← e2] at h
    exact done_lst S h (by rw [List.length_map, hp.length_eq]; omega) (Views.of_ints ys) p n
  unfold sortedF at e
  split at e
  · obtain ⟨ns, e1, e2⟩ := Option.map_eq_some_iff.mp e
    cases e2
    obtain ⟨v, rfl, k1⟩ := h1.inv1
    obtain ⟨a, ys, rfl, _, hs, hl, hv⟩ := VT.itemsB S0 k1 (.inr rfl)
    rw [intsOf_eq e1] at hv
    have e3 := hv.ints
    subst e3
    exact .inl ⟨a, ns, rfl, SqL.of (hs (by rw [intsOf_eq e1])), fin (List.length_map _).symm hl rfl rfl⟩
  · obtain ⟨ns, e1, e2⟩ := Option.map_eq_some_iff.mp e
    cases e2
    obtain ⟨v, rfl, k1⟩ := h1.inv1
    obtain ⟨a, ys, rfl, _, hs, hk, hl, hv⟩ := VT.view S0 k1
    have ek := inlsOf_eq e1
    refine .inr ⟨a, _, ns, rfl, .inl hs, ?_, fin (n := ys.length) (by rw [← hk, ek, List.length_map]) hl rfl rfl⟩
    rw [List.map_fst_zip (by omega)]
    exact ek
  · cases e

/-! ### calls of the program's defs -/
abbrev Fun1 := List PV → Src → Res (PV × Src)
def spX (g : Gm) (fn : Fun1) : Sp := fun vs H Q E => ∃ (L : Option (Addr × Addr)) (pvs : List PV) (s : Src) (A : Addr → Prop), Views g L H A pvs vs ∧ SrcAt L H s ∧ (∀ a, A a → notSrc L a) ∧
  match fn pvs s with
  | .ok (r, s') => ∀ H' v, Ext L H H' → SrcAt L H' s' → View g L H' (fun a => A a ∨ H a = none) r v → Q v H'
  | .exc n s' => ∀ H' cls d, Ext L H H' → SrcAt L H' s' → g.exc n cls → E cls d H'
  | .err => False
/-- what is wanted of an exception in a frame -/
def EX (F : Fr) : XK := fun cls _ H' => ∃ n, F.g.exc n cls ∧ F.Xn n H'
def callTag (xs : List (PV × Tag)) (r : PV) : Tag := if xs.all (fun p => p.2.clean) then .cl else if flat r then .cl else .di
def E.call (fn : Fun1) (a : EEs) : EE := fun ρ s => match a ρ s with
  | .ok (xs, s1) => match fn (xs.map (·.1)) s1 with
    | .ok (r, s2) => .ok (r, callTag xs r, s2)
    | .exc n s2 => .exc n s2
    | .err => .err
  | .exc n s1 => .exc n s1
  | .err => .err
/-- a call whose flat arguments give a new container of flat things -/
def newTag (xs : List (PV × Tag)) (r : PV) : Tag := if flats (xs.map (·.1)) then (match r with
    | .lst ys => if flats ys then .fr else .cl
    | .dK _ ys => if flats ys then .fr else .cl
    | _ => .cl) else callTag xs r
def E.callN (fn : Fun1) (a : EEs) : EE := fun ρ s => match a ρ s with
  | .ok (xs, s1) => match fn (xs.map (·.1)) s1 with
    | .ok (r, s2) => .ok (r, newTag xs r, s2)
    | .exc n s2 => .exc n s2
    | .err => .err
  | .exc n s1 => .exc n s1
  | .err => .err
/-- a def as it stands: its address, its parameters, what it does -/
structure Df (P : Program) (w : World) (K : PySem.W.Frag) (mg : Str → Option Value) (base : Heap) (g : Gm) (n : Nat) (x : Str) (ps : List Str) (fn : Fun1) : Prop where
  ex : ∃ (f : Addr) (fd : FuncData), mg x = some (.ref f) ∧ PySem.W.keepIn K (.ref f) = true ∧ Binds K fd ps [] ∧ FnOk P w K mg base (L2.CX P w) n f fd ps (spX g fn)
section
variable {X : Cx} {F : Fr} {e : Expr} {es : List Expr} {fs : EEs} {p pos : Pos} {x : Str} {n : Nat} {ps : List Str} {fn : Fun1}
theorem call_of {own : Nat → Option Addr} {σ : L2.St} {ρ : EnvP} {s s1 : Src} {H H1 : Hp} {xs : List (PV × Tag)} {vs : List V} {Q : VK} {tg : PV → Tag} (htg : tg = callTag xs ∨ tg = newTag xs) (S : SR F own σ H ρ s) (S1 : SR F own σ H1 ρ s1) (x1 : Ext F.L H H1) (vt : VTs F own H H1 xs vs)
    (h : Out F own H1 (match fn (xs.map (·.1)) s1 with
      | .ok (r, s2) => .ok (r, tg r, s2)
      | .exc n s2 => .exc n s2
      | .err => .err) Q) : spX F.g fn vs H1 Q (EX F) := by
  have vB := VTs.views S vt
  have hexc : ∀ n s2, fn (xs.map (·.1)) s1 = .exc n s2 → (∀ H', Ext F.L H1 H' → SrcAt F.L H' s2 → F.Xn n H') → ∀ H' cls d, Ext F.L H1 H' → SrcAt F.L H' s2 → F.g.exc n cls → EX F cls d H' := fun n s2 _ h H' cls d a b c => ⟨n, c, h H' a b⟩
  -- with the clean arguments nothing of the frame's own is touched
  by_cases hf : tg = newTag xs ∧ flats (xs.map (·.1)) = true
  · obtain ⟨e1, hf⟩ := hf
    subst e1
    refine ⟨F.L, xs.map (·.1), s1, fun _ => False, VTs.flat S hf vt, S1.src, fun a q => q.elim, ?_⟩
    cases e2 : fn (xs.map (·.1)) s1 with
    | err => rw [e2] at h; exact h
    | exc n s2 => rw [e2] at h; exact hexc n s2 e2 h
    | ok q =>
      obtain ⟨r, s2⟩ := q
      rw [e2] at h
      intro H' v a b c
      have S2 := S1.ext a b
      have hcl : View F.g F.L H' (Bo F own) r v := c.mono (fun _ _ e _ => e) fun b u e q => by
        rcases q with q | q
        · exact q.elim
        · exact S1.bo q
      have hnew : newTag xs r = .cl ∨ newTag xs r = .fr := by
        unfold newTag
        rw [if_pos hf]
        split
        · split <;> simp
        · split <;> simp
        · simp
      refine h H' v a b ?_
      rcases hnew with e3 | e3
      · rw [e3]; exact hcl
      · rw [e3]
        unfold newTag at e3
        rw [if_pos hf] at e3
        split at e3
        · rename_i ys
          split at e3
          · rename_i hfl
            obtain ⟨p, zs, ev, hb, hs, hl, hv⟩ := c
            rcases hb with hb | hb
            · exact hb.elim
            · exact ⟨p, ev, hb, zs, hs, hl, Views.flat (fun _ _ e _ => e) _ _ hfl hv⟩
          · cases e3
        · rename_i ks ys
          split at e3
          · rename_i hfl
            obtain ⟨p, zs, ev, hb, hs, hk, hl, hv⟩ := c
            rcases hb with hb | hb
            · exact hb.elim
            · exact ⟨p, ev, hb, zs, hs, hk, hl, Views.flat (fun _ _ e _ => e) _ _ hfl hv⟩
          · cases e3
        · cases e3
  · have htg' : ∀ r, tg r = callTag xs r := fun r => by
      rcases htg with e1 | e1
      · rw [e1]
      · rw [e1]
        unfold newTag
        rw [if_neg fun q => hf ⟨e1, q⟩]
    by_cases hc : xs.all (fun p => p.2.clean) = true
    · refine ⟨F.L, xs.map (·.1), s1, Bo F own, VTs.cl S hc vt, S1.src, fun a q => S1.bsrc a q.1, ?_⟩
      cases e2 : fn (xs.map (·.1)) s1 with
      | err => rw [e2] at h; exact h
      | exc n s2 => rw [e2] at h; exact hexc n s2 e2 h
      | ok q =>
        obtain ⟨r, s2⟩ := q
        rw [e2] at h
        intro H' v a b c
        refine h H' v a b ?_
        rw [htg', callTag, if_pos hc]
        exact c.mono (fun _ _ e _ => e) fun b u e q => by
          rcases q with q | q
          · exact q
          · exact S1.bo q
    · refine ⟨F.L, xs.map (·.1), s1, F.B, vB, S1.src, fun a q => S1.bsrc a q, ?_⟩
      cases e2 : fn (xs.map (·.1)) s1 with
      | err => rw [e2] at h; exact h
      | exc n s2 => rw [e2] at h; exact hexc n s2 e2 h
      | ok q =>
        obtain ⟨r, s2⟩ := q
        rw [e2] at h
        intro H' v a b c
        refine h H' v a b ?_
        rw [htg', callTag, if_neg hc]
        split
        · rename_i hfl
          exact View.flat (fun _ _ e _ => e) _ _ hfl c
        · exact c.mono (fun _ _ e _ => e) fun b u e q => by
            rcases q with q | q
            · exact q
            · exact S1.fresh b q
theorem px_call (D : Df X.prog X.w X.K X.mg X.base F.g n x ps fn) (hr : Room n X.A) (hx : Passes (L2.CX X.prog X.w) X (EX F)) (ha : PXs X F (e :: es) fs) (hg : Gl X x := by rfl) (hdb : (x == ("__debug__" : Str)) = false := by decide)
    (he : starEach (e :: es) X.env = (false, eval e X.env) :: starEach es X.env := by rfl) (hpl : (backTo pos (starEach es X.env)).any (·.1) = false := by rfl) : PX X F (.Call (.Name x p) (e :: es) [] pos) (E.call fn fs) := by
  obtain ⟨f, fd, hm, hk, hb, ok⟩ := D.ex
  refine PE.imp (pe_call ok hr hg hm hk hb .nil hx ha hdb he hpl) fun σ H Q ⟨ρ, s, own, S, h⟩ => ?_
  unfold E.call at h
  refine TAx.mono (TAx.step (k := fun xs s1 => match fn (xs.map (·.1)) s1 with
    | .ok (r, s2) => .ok (r, callTag xs r, s2)
    | .exc n s2 => .exc n s2
    | .err => .err) S h) fun vs H1 ⟨xs, s1, S1, vt, x, h1⟩ => ?_
  rw [List.append_nil]
  exact call_of (.inl rfl) S S1 x vt h1
theorem px_callN (D : Df X.prog X.w X.K X.mg X.base F.g n x ps fn) (hr : Room n X.A) (hx : Passes (L2.CX X.prog X.w) X (EX F)) (ha : PXs X F (e :: es) fs) (hg : Gl X x := by rfl) (hdb : (x == ("__debug__" : Str)) = false := by decide)
    (he : starEach (e :: es) X.env = (false, eval e X.env) :: starEach es X.env := by rfl) (hpl : (backTo pos (starEach es X.env)).any (·.1) = false := by rfl) : PX X F (.Call (.Name x p) (e :: es) [] pos) (E.callN fn fs) := by
  obtain ⟨f, fd, hm, hk, hb, ok⟩ := D.ex
  refine PE.imp (pe_call ok hr hg hm hk hb .nil hx ha hdb he hpl) fun σ H Q ⟨ρ, s, own, S, h⟩ => ?_
  unfold E.callN at h
  refine TAx.mono (TAx.step (k := fun xs s1 => match fn (xs.map (·.1)) s1 with
    | .ok (r, s2) => .ok (r, newTag xs r, s2)
    | .exc n s2 => .exc n s2
    | .err => .err) S h) fun vs H1 ⟨xs, s1, S1, vt, x, h1⟩ => ?_
  rw [List.append_nil]
  exact call_of (.inr rfl) S S1 x vt h1
end
end EV
set_option Elab.async false
set_option linter.all false
set_option maxRecDepth 100000
/-! The pure reading of what is walked, and of list comprehensions. -/
namespace EV
open PySem PySem.Spec L2

abbrev EI := EnvP → Src → Res (List PV × Option Nat × Src)
/-- the frame's clean addresses that stood already -/
def B1 (F : Fr) (own : Nat → Option Addr) (H1 : Hp) (a : Addr) : Prop := Bo F own a ∧ H1 a ≠ none
/-- what is walked: it yields the items zs, while all but the source and the frame's own (but slot c's) is as it was -/
def Wk (F : Fr) (own : Nat → Option Addr) (H1 : Hp) (c : Option Nat) (J : It) (zs : List PV) : Prop :=
  ∀ H, (∀ b u, H1 b = some u → notSrc F.L b → (∀ j, own j = some b → c = some j) → H b = some u) →
    (∀ i, i < zs.length → J.go i H) ∧ J.stop zs.length H ∧
    ∀ i x H', i < zs.length → J.yld i H x H' → ∃ z, zs[i]? = some z ∧ View F.g F.L H' (B1 F own H1) z x ∧ Ext F.L H H' ∧ ∀ s, SrcAt F.L H s → SrcAt F.L H' s
def TIx (F : Fr) (f : EI) : TI := fun σ H R => ∃ ρ s own, SR F own σ H ρ s ∧ match f ρ s with
  | .ok (zs, c, s1) => ∀ H1 J, Ext F.L H H1 → SrcAt F.L H1 s1 → (∀ j, c = some j → ∃ pv, ρ[j]? = some (some (pv, true))) → zs.length ≤ sizeLine → Wk F own H1 c J zs → R J H1
  | .exc n s1 => ∀ H', Ext F.L H H' → SrcAt F.L H' s1 → F.Xn n H'
  | .err => False
def PIX (X : Cx) (F : Fr) (tg e : Expr) (f : EI) : Prop := PI X tg e (TIx F f)
theorem PI.imp {X : Cx} {tg e : Expr} {t t' : TI} (h : PI X tg e t) (i : ∀ σ H Q, t' σ H Q → t σ H Q) : PI X tg e t' := ⟨fun pins s σ H Q I q => h.run pins s σ H Q I (i σ H Q q)⟩

/-! ### a list, a tuple, a text -/
section
variable {X : Cx} {tg l : Expr} {tl : TE}
def iSeq (K : PySem.W.Frag) (tl : TE) : TI := fun σ H R => tl σ H fun x H1 => (∃ a, x = .ref a ∧ (∃ xs, SqL K H1 a xs) ∧ R (Itl K a) H1) ∨ (∃ a, x = .ref a ∧ (∃ xs, SqT K H1 a xs) ∧ R (Itt K a) H1) ∨ ∃ z, x = .str z ∧ R (Its z) H1
theorem pi_seq (hl : PE X l tl) : PI X tg l (iSeq X.K tl) := by
  refine ⟨fun pins s σ H R I h => ?_⟩
  refine thn (hl.run pins s σ H _ I h) fun v s1 ⟨x, H1, I1, r1, q1⟩ => ?_
  rcases q1 with ⟨a, rfl, ⟨xs, hq⟩, q⟩ | ⟨a, rfl, ⟨xs, hq⟩, q⟩ | ⟨z, rfl, q⟩
  · cases r1
    obtain ⟨its, rv, p, hz⟩ := I1.list hq
    refine wpAny_pyIter_list p.isList ?_
    refine ⟨s1.heap.objs.size, [s1.heap.objs.size], _, _, H1, rfl, I1.kept (t' := s1.toks) fun b o e => Heap.get?_push_of_some _ e, turn_list a _, ⟨_, Heap.get?_push_size _ rfl, rfl, rfl⟩, fun b hb => ?_, q⟩
    have e : b = s1.heap.objs.size := by simpa using hb
    subst e
    exact I1.fpOk (Nat.le_refl _) (I1.hok.fresh (Nat.le_refl _))
  · cases r1
    obtain ⟨its, rv, p, hz⟩ := I1.tuple hq
    refine wpAny_pyIter_tuple (show s1.heap.IsTuple a its.toArray from p) ?_
    refine ⟨s1.heap.objs.size, [s1.heap.objs.size], _, _, H1, rfl, I1.kept (t' := s1.toks) fun b o e => Heap.get?_push_of_some _ e, turn_tuple a _, ⟨_, Heap.get?_push_size _ rfl, rfl, rfl⟩, fun b hb => ?_, q⟩
    have e : b = s1.heap.objs.size := by simpa using hb
    subst e
    exact I1.fpOk (Nat.le_refl _) (I1.hok.fresh (Nat.le_refl _))
  · obtain ⟨t, rfl⟩ := r1
    cases ha : z.cps.all (· < 128)
    · exact wpAny_pyIter_wide ha (pi_one (tk := s1.toks) I1 _ (turn_str _ z t "str_iterator" (.inr rfl)) ⟨_, Heap.get?_push_size _ rfl, rfl, rfl⟩ q)
    · exact wpAny_pyIter_ascii ha (pi_one (tk := s1.toks) I1 _ (turn_str _ z t "str_ascii_iterator" (.inl rfl)) ⟨_, Heap.get?_push_size _ rfl, rfl, rfl⟩ q)
end
def chars (z : Str) : List PV := z.cps.toList.map fun c => .str ⟨#[c]⟩
/-- the items of a thing that is walked, and the slot whose container it is -/
def seqF (x : PV) (tx : Tag) : Option (List PV × Option Nat) :=
  match x with
  | .tup xs => match tx with
    | .di => none
    | _ => some (xs, none)
  | .lst xs => match tx with
    | .di => none
    | .own i => some (xs, some i)
    | _ => some (xs, none)
  | .str z => some (chars z, none)
  | _ => none
def I.seq (a : EE) : EI := fun ρ s => match a ρ s with
  | .ok (x, tx, s1) => match seqF x tx with
    | some (zs, c) => .ok (zs, c, s1)
    | none => .err
  | .exc n s1 => .exc n s1
  | .err => .err
section
variable {F : Fr} {own : Nat → Option Addr} {σ : L2.St} {H H0 H1 : Hp} {ρ : EnvP} {s s1 : Src}
theorem SR.fixKeep (S : SR F own σ H1 ρ s) {c : Option Nat} (hP : ∀ b u, H1 b = some u → notSrc F.L b → (∀ j, own j = some b → c = some j) → H b = some u) : ∀ b u, H1 b = some u → Bo F own b ∨ Fix u → H b = some u := fun b u e q => by
  rcases q with q | q
  · exact hP b u e (S.bsrc b q.1) fun j e2 => absurd e2 (q.2 j)
  · exact hP b u e (S.src.fix_ne e q) fun j e2 => by
      obtain ⟨u', h, nf⟩ := S.ownAt e2
      rw [e] at h; cases h
      exact absurd q nf
theorem ext_same {L : Option (Addr × Addr)} : Ext L H H ∧ ∀ s, SrcAt L H s → SrcAt L H s := ⟨.refl _, fun _ h => h⟩
theorem Wk.lst (S : SR F own σ H1 ρ s) {a : Addr} {xs : List PV} {ys : List V} {c : Option Nat} (ha : H1 a = some (.lst ys)) (hs : notSrc F.L a) (hc : ∀ j, own j = some a → c = some j) (hv : Views F.g F.L H1 (Bo F own) xs ys) : Wk F own H1 c (Itl F.g.K a) xs := fun H hP => by
  have e : H a = some (.lst ys) := hP a _ ha hs hc
  have hv' : Views F.g F.L H (B1 F own H1) xs ys := hv.mono (S.fixKeep hP) fun b u e q => ⟨q, by rw [e]; simp⟩
  refine ⟨fun i hi => ⟨ys, ys[i]'(by rw [← hv.length]; exact hi), SqL.of e, List.getElem?_eq_getElem _⟩, ⟨ys, SqL.of e, by rw [hv.length]; exact Nat.le_refl _⟩, fun i x H' hi hy => ?_⟩
  obtain ⟨rfl, hx⟩ := hy
  obtain ⟨z, e1, e2⟩ := hv'.get' (hx ys (SqL.of e))
  exact ⟨z, e1, e2, ext_same⟩
theorem Wk.tup (S : SR F own σ H1 ρ s) {a : Addr} {xs : List PV} {ys : List V} {c : Option Nat} (ha : SqT F.g.K H1 a ys) (hv : Views F.g F.L H1 (Bo F own) xs ys) : Wk F own H1 c (Itt F.g.K a) xs := fun H hP => by
  have e : SqT F.g.K H a ys := sqT_keep (fun b u q f => S.fixKeep hP b u q (.inr f)) ha
  have hv' : Views F.g F.L H (B1 F own H1) xs ys := hv.mono (S.fixKeep hP) fun b u e q => ⟨q, by rw [e]; simp⟩
  refine ⟨fun i hi => ⟨ys, ys[i]'(by rw [← hv.length]; exact hi), e, List.getElem?_eq_getElem _⟩, ⟨ys, e, by rw [hv.length]; exact Nat.le_refl _⟩, fun i x H' hi hy => ?_⟩
  obtain ⟨rfl, hx⟩ := hy
  obtain ⟨z, e1, e2⟩ := hv'.get' (hx ys e)
  exact ⟨z, e1, e2, ext_same⟩
theorem Wk.str {z : Str} {c : Option Nat} : Wk F own H1 c (Its z) (chars z) := fun H hP => by
  refine ⟨fun i hi => (show i < z.cps.size by simpa [chars] using hi), by simp [Its, chars], fun i x H' hi hy => ?_⟩
  obtain ⟨rfl, c, e, rfl⟩ := hy
  refine ⟨.str ⟨#[c]⟩, ?_, ⟨rfl, by show 1 ≤ sizeLine; decide⟩, ext_same⟩
  unfold chars
  rw [List.getElem?_map, Array.getElem?_toList, e]; rfl
/-- what is evaluated, then walked -/
theorem TEx.stepI {a : EE} {R : It → Hp → Prop} {k : PV → Tag → Option (List PV × Option Nat)} (S : SR F own σ H ρ s) (h : match (match a ρ s with
    | .ok (x, tx, s1) => match k x tx with
      | some (zs, c) => .ok (zs, c, s1)
      | none => .err
    | .exc n s1 => .exc n s1
    | .err => .err : Res (List PV × Option Nat × Src)) with
    | .ok (zs, c, s1) => ∀ H1 J, Ext F.L H H1 → SrcAt F.L H1 s1 → (∀ j, c = some j → ∃ pv, ρ[j]? = some (some (pv, true))) → zs.length ≤ sizeLine → Wk F own H1 c J zs → R J H1
    | .exc n s1 => ∀ H', Ext F.L H H' → SrcAt F.L H' s1 → F.Xn n H'
    | .err => False) : TEx F a σ H fun v H1 => ∃ x tx s1 zs c, k x tx = some (zs, c) ∧ SR F own σ H1 ρ s1 ∧ VT F own H H1 tx x v ∧ Ext F.L H H1 ∧ ∀ J, (∀ j, c = some j → ∃ pv, ρ[j]? = some (some (pv, true))) → zs.length ≤ sizeLine → Wk F own H1 c J zs → R J H1 := by
  refine ⟨ρ, s, own, S, ?_⟩
  cases e : a ρ s with
  | exc n s' => rw [e] at h; exact h
  | err => rw [e] at h; exact h
  | ok q =>
    obtain ⟨x, tx, s1⟩ := q
    rw [e] at h
    dsimp only at h
    cases ek : k x tx with
    | none => rw [ek] at h; exact h.elim
    | some p =>
      obtain ⟨zs, c⟩ := p
      rw [ek] at h
      intro H1 v x1 sa vt
      exact ⟨x, tx, s1, zs, c, ek, S.ext x1 sa, vt, x1, fun J hj hl hw => h H1 J x1 sa hj hl hw⟩
theorem pix_seq {X : Cx} {tg l : Expr} {f : EE} (hl : PX X F l f) (hK : F.g.K = X.K := by rfl) : PIX X F tg l (I.seq f) := by
  refine PI.imp (pi_seq hl) fun σ H R ⟨ρ, s, own, S, h⟩ => ?_
  unfold I.seq at h
  refine TEx.mono (TEx.stepI S h) fun v H1 ⟨x, tx, s1, zs, c, ek, S1, vt, x1, hR⟩ => ?_
  unfold seqF at ek
  split at ek
  · split at ek
    · cases ek
    · rename_i ht
      cases ek
      obtain ⟨a, ys, rfl, _, hs, _, hl, hv⟩ := VT.items S vt (.inl rfl) (fun q => ht q)
      exact .inr (.inl ⟨a, rfl, ⟨ys, hK ▸ hs rfl⟩, hK ▸ hR _ (fun j e => nomatch e) (by rw [hv.length]; exact hl) (Wk.tup S1 (hs rfl) hv)⟩)
  · split at ek
    · cases ek
    · rename_i i
      cases ek
      obtain ⟨a, e, rfl, ys, hs, hl, hv⟩ := vt
      exact .inl ⟨a, rfl, ⟨ys, SqL.of hs⟩, hK ▸ hR _ (fun j ej => by cases ej; exact S1.owned i a e) (by rw [hv.length]; exact hl) (Wk.lst S1 hs (S1.bsrc a (S1.new i a e).2) (fun j ej => by rw [S1.inj j i a ej e]) hv)⟩
    · rename_i ht ho
      cases ek
      obtain ⟨a, ys, rfl, hb, hs, hl, hv⟩ := VT.cl S vt (by cases tx <;> first | exact .inl rfl | exact .inr rfl | exact (ho _ rfl).elim | exact (ht rfl).elim)
      exact .inl ⟨a, rfl, ⟨ys, SqL.of hs⟩, hK ▸ hR _ (fun j ej => nomatch ej) (by rw [hv.length]; exact hl) (Wk.lst S1 hs (S1.bsrc a hb.1) (fun j ej => absurd ej (hb.2 j)) hv)⟩
  · cases ek
    obtain ⟨rfl, hl⟩ := VT.view S vt
    exact .inr (.inr ⟨_, rfl, hR _ (fun j e => nomatch e) (by unfold chars; rw [List.length_map]; simpa [Str.length] using hl) Wk.str⟩)
  · cases ek
end

/-! ### ranges -/
def range62 (i : Int) : Bool := decide (-(2 ^ 62) ≤ i) && decide (i < 2 ^ 62)
def rangeL (lo : Int) (n : Nat) : List PV := (List.range n).map fun k => .int (lo + (k : Nat))
def rangeD (lo c : Int) (n : Nat) : List PV := (List.range n).map fun (k : Nat) => .int (lo + (k : Nat) * c)
def rng1F : List (PV × Tag) → Option (List PV)
  | [(.int j, _)] => if range62 j && decide (j.toNat ≤ sizeLine) then some (rangeL 0 j.toNat) else none
  | _ => none
def rng2F : List (PV × Tag) → Option (List PV)
  | [(.int i, _), (.int j, _)] => if range62 i && range62 j && decide ((j - i).toNat ≤ sizeLine) then some (rangeL i (j - i).toNat) else none
  | _ => none
def rng3F : List (PV × Tag) → Option (List PV)
  | [(.int i, _), (.int j, _), (.int c, _)] => if range62 i && range62 j && decide (c = -1) && decide ((i - j).toNat ≤ sizeLine) then some (rangeD i (-1) (i - j).toNat) else none
  | _ => none
def I.args (f : List (PV × Tag) → Option (List PV)) (a : EEs) : EI := fun ρ s => match a ρ s with
  | .ok (xs, s1) => match f xs with
    | some zs => .ok (zs, none, s1)
    | none => .err
  | .exc n s1 => .exc n s1
  | .err => .err
section
variable {X : Cx} {F : Fr} {own : Nat → Option Addr} {σ : L2.St} {H H0 H1 : Hp} {ρ : EnvP} {s s1 : Src} {tg a b c : Expr} {es : List Expr} {fs : EEs} {p pos : Pos} {f : List (PV × Tag) → Option (List PV)}
theorem Wk.rng {lo : Int} {n : Nat} {c : Option Nat} : Wk F own H1 c (Itr lo n) (rangeL lo n) := fun H hP => by
  refine ⟨fun i hi => (show i < n by simpa [rangeL] using hi), by simp [Itr, rangeL], fun i x H' hi hy => ?_⟩
  obtain ⟨rfl, rfl⟩ := hy
  have hi' : i < n := by simpa [rangeL] using hi
  exact ⟨.int (lo + i), by unfold rangeL; rw [List.getElem?_map, List.getElem?_range hi']; rfl, rfl, ext_same⟩
theorem Wk.rngD {lo d : Int} {n : Nat} {c : Option Nat} : Wk F own H1 c (Itc lo d n) (rangeD lo d n) := fun H hP => by
  refine ⟨fun i hi => (show i < n by simpa [rangeD] using hi), by simp [Itc, rangeD], fun i x H' hi hy => ?_⟩
  obtain ⟨rfl, rfl⟩ := hy
  have hi' : i < n := by simpa [rangeD] using hi
  exact ⟨.int (lo + i * d), by unfold rangeD; rw [List.getElem?_map, List.getElem?_range hi']; rfl, rfl, ext_same⟩
theorem TIx.args {R : It → Hp → Prop} (S : SR F own σ H ρ s) (h : match I.args f fs ρ s with
    | .ok (zs, c, s1) => ∀ H1 J, Ext F.L H H1 → SrcAt F.L H1 s1 → (∀ j, c = some j → ∃ pv, ρ[j]? = some (some (pv, true))) → zs.length ≤ sizeLine → Wk F own H1 c J zs → R J H1
    | .exc n s1 => ∀ H', Ext F.L H H' → SrcAt F.L H' s1 → F.Xn n H'
    | .err => False) : TAx F fs σ H fun vs H1 => ∃ xs s1 zs, f xs = some zs ∧ SR F own σ H1 ρ s1 ∧ VTs F own H H1 xs vs ∧ Ext F.L H H1 ∧ ∀ J, zs.length ≤ sizeLine → Wk F own H1 none J zs → R J H1 := by
  unfold I.args at h
  refine ⟨ρ, s, own, S, ?_⟩
  cases e : fs ρ s with
  | exc n s' => rw [e] at h; exact h
  | err => rw [e] at h; exact h
  | ok q =>
    obtain ⟨xs, s1⟩ := q
    rw [e] at h
    dsimp only at h
    cases ek : f xs with
    | none => rw [ek] at h; exact h.elim
    | some zs =>
      rw [ek] at h
      intro H1 v x1 sa vt
      exact ⟨xs, s1, zs, ek, S.ext x1 sa, vt, x1, fun J hl hw => h H1 J x1 sa (fun j e => nomatch e) hl hw⟩
theorem pix_range1 (hm : X.mg "range" = none) (ha : PXs X F [a] fs) (hg : Gl X "range" := by rfl) (hs : starEach [a] X.env = [(false, eval a X.env)] := by rfl) : PIX X F tg (.Call (.Name "range" p) [a] [] pos) (I.args rng1F fs) := by
  refine PI.imp (pi_range1 hg hm ha hs) fun σ H R ⟨ρ, s, own, S, h⟩ => ?_
  refine TAx.mono (TIx.args S h) fun vs H1 ⟨xs, s1, zs, ek, S1, vt, x1, hR⟩ => ?_
  unfold rng1F at ek
  split at ek
  · split at ek
    · rename_i hc
      cases ek
      simp only [Bool.and_eq_true, range62, decide_eq_true_eq] at hc
      obtain ⟨v, rfl, k1⟩ := vt.inv1
      cases (show v = .int _ from VT.view S k1)
      exact ⟨_, rfl, hc.1.1, hc.1.2, hR _ (by simpa [rangeL] using hc.2) Wk.rng⟩
    · cases ek
  · cases ek
theorem pix_range2 (hm : X.mg "range" = none) (ha : PXs X F [a, b] fs) (hg : Gl X "range" := by rfl) (hs : starEach [a, b] X.env = [(false, eval a X.env), (false, eval b X.env)] := by rfl) (hs2 : starEach [b] X.env = [(false, eval b X.env)] := by rfl) :
    PIX X F tg (.Call (.Name "range" p) [a, b] [] pos) (I.args rng2F fs) := by
  refine PI.imp (pi_range2 hg hm ha hs hs2) fun σ H R ⟨ρ, s, own, S, h⟩ => ?_
  refine TAx.mono (TIx.args S h) fun vs H1 ⟨xs, s1, zs, ek, S1, vt, x1, hR⟩ => ?_
  unfold rng2F at ek
  split at ek
  · split at ek
    · rename_i hc
      cases ek
      simp only [Bool.and_eq_true, range62, decide_eq_true_eq] at hc
      obtain ⟨v, v', rfl, k1, k2⟩ := vt.inv2
      cases (show v = .int _ from VT.view S k1)
      cases (show v' = .int _ from VT.view S k2)
      exact ⟨_, _, rfl, ⟨hc.1.1.1, hc.1.1.2, hc.1.2.1, hc.1.2.2⟩, hR _ (by simpa [rangeL] using hc.2) Wk.rng⟩
    · cases ek
  · cases ek
theorem VTs.inv3 {p q r : PV × Tag} {vs : List V} (h : VTs F own H0 H1 [p, q, r] vs) : ∃ v v' v'', vs = [v, v', v''] ∧ VT F own H0 H1 p.2 p.1 v ∧ VT F own H0 H1 q.2 q.1 v' ∧ VT F own H0 H1 r.2 r.1 v'' := by
  obtain ⟨v, t, e, h1, h2⟩ := h
  obtain ⟨v', v'', e', h3, h4⟩ := VTs.inv2 h2
  subst e'
  exact ⟨v, v', v'', e, h1, h3, h4⟩
theorem pix_range3 (hm : X.mg "range" = none) (ha : PXs X F [a, b, c] fs) (hg : Gl X "range" := by rfl) (hs : starEach [a, b, c] X.env = (false, eval a X.env) :: starEach [b, c] X.env := by rfl) (hp : (backTo pos (starEach [b, c] X.env)).any (·.1) = false := by rfl)
    : PIX X F tg (.Call (.Name "range" p) [a, b, c] [] pos) (I.args rng3F fs) := by
  refine PI.imp (pi_range3 hg hm ha hs hp) fun σ H R ⟨ρ, s, own, S, h⟩ => ?_
  refine TAx.mono (TIx.args S h) fun vs H1 ⟨xs, s1, zs, ek, S1, vt, x1, hR⟩ => ?_
  unfold rng3F at ek
  split at ek
  · split at ek
    · rename_i hc
      cases ek
      simp only [Bool.and_eq_true, range62, decide_eq_true_eq] at hc
      obtain ⟨⟨⟨⟨h1, h2⟩, h3, h4⟩, h5⟩, h6⟩ := hc
      subst h5
      obtain ⟨v, v', v'', rfl, k1, k2, k3⟩ := vt.inv3
      cases (show v = .int _ from VT.view S k1)
      cases (show v' = .int _ from VT.view S k2)
      cases (show v'' = .int _ from VT.view S k3)
      exact ⟨_, _, _, _, rfl, RgC.neg h1 h2 h3 h4, hR _ (by simpa [rangeD] using h6) Wk.rngD⟩
    · cases ek
  · cases ek
end

/-! ### targets -/
inductive Tg where
  | nm (i : Nat) | tp (ts : List Tg)
mutual
def Tg.set : Tg → PV → EnvP → Option EnvP
  | .nm i, z, ρ => match ρ[i]? with
    | some (some (_, true)) => none
    | some _ => some (ρ.set i (some (z, false)))
    | none => none
  | .tp ts, .tup zs, ρ => if ts.length = zs.length then Tg.sets ts zs ρ else none
  | .tp _, _, _ => none
def Tg.sets : List Tg → List PV → EnvP → Option EnvP
  | [], [], ρ => some ρ
  | t :: ts, z :: zs, ρ => match t.set z ρ with
    | some ρ1 => Tg.sets ts zs ρ1
    | none => none
  | _, _, _ => none
end
mutual
def gOf (K : PySem.W.Frag) : Tg → TG
  | .nm i => gName i
  | .tp ts => gTup K ts.length (gOfs K ts)
def gOfs (K : PySem.W.Frag) : List Tg → TGs
  | [] => gNil
  | t :: ts => gCons (gOf K t) (gOfs K ts)
end
section
variable {F : Fr} {own : Nat → Option Addr} {σ : L2.St} {H H0 H1 : Hp} {ρ ρ1 : EnvP} {s s1 : Src}
/-- a plain value into a slot that is not the frame's own -/
theorem SR.setPlain (S : SR F own σ H ρ s) {i : Nat} {z : PV} {v : V} {sl : Slot} (hi : ρ[i]? = some sl) (hn : ∀ pv, sl ≠ some (pv, true)) (hv : View F.g F.L H (Bo F own) z v) : SR F own (σ.set i (some v)) H (ρ.set i (some (z, false))) s where
  keep := S.keep
  src := S.src
  h0s := S.h0s
  bsrc := S.bsrc
  new := S.new
  inj := S.inj
  fresh := S.fresh
  len := by rw [List.length_set, List.length_set]; exact S.len
  flag := fun j pv h => by
    by_cases e : j = i
    · subst e
      rw [List.getElem?_set_self (by exact (List.getElem?_eq_some_iff.mp hi).1)] at h
      cases h
    · rw [List.getElem?_set_ne (Ne.symm e)] at h
      obtain ⟨a, e1, e2, c⟩ := S.flag j pv h
      exact ⟨a, e1, by rw [List.getElem?_set_ne (Ne.symm e)]; exact e2, c⟩
  plain := fun j pv h => by
    have hl := (List.getElem?_eq_some_iff.mp hi).1
    by_cases e : j = i
    · subst e
      rw [List.getElem?_set_self hl] at h
      cases h
      exact ⟨v, by rw [List.getElem?_set_self (by rw [S.len]; exact hl)], hv⟩
    · rw [List.getElem?_set_ne (Ne.symm e)] at h
      obtain ⟨w, e2, c⟩ := S.plain j pv h
      exact ⟨w, by rw [List.getElem?_set_ne (Ne.symm e)]; exact e2, c⟩
  owned := fun j a h => by
    obtain ⟨pv, e⟩ := S.owned j a h
    have hne : j ≠ i := fun q => by
      subst q
      rw [hi] at e
      exact hn pv (Option.some.inj e)
    exact ⟨pv, by rw [List.getElem?_set_ne (Ne.symm hne)]; exact e⟩
/-- outside of some slots as before -/
def Agr (vs : List Nat) (σ σ1 : L2.St) : Prop := σ1.length = σ.length ∧ ∀ j, j ∉ vs → σ1[j]? = σ[j]?
theorem Agr.refl {vs : List Nat} (σ : L2.St) : Agr vs σ σ := ⟨rfl, fun _ _ => rfl⟩
theorem Agr.trans {vs : List Nat} {σ σ1 σ2 : L2.St} (a : Agr vs σ σ1) (b : Agr vs σ1 σ2) : Agr vs σ σ2 := ⟨b.1.trans a.1, fun j h => (b.2 j h).trans (a.2 j h)⟩
theorem Agr.set {vs : List Nat} {σ : L2.St} {i : Nat} {v : Option V} (h : i ∈ vs) : Agr vs σ (σ.set i v) := ⟨List.length_set, fun j hj => List.getElem?_set_ne fun e => hj (by rw [← e]; exact h)⟩
mutual
def Tg.within (vs : List Nat) : Tg → Bool
  | .nm i => vs.contains i
  | .tp ts => Tg.withins vs ts
def Tg.withins (vs : List Nat) : List Tg → Bool
  | [] => true
  | t :: ts => t.within vs && Tg.withins vs ts
end
mutual
theorem gOf_set {K : PySem.W.Frag} (hK : K = F.g.K) {vs : List Nat} {Q : L2.St → Hp → Prop} : ∀ (t : Tg) {z : PV} {v : V} {σ : L2.St} {ρ ρ1 : EnvP}, t.within vs = true → SR F own σ H ρ s → View F.g F.L H (Bo F own) z v → t.set z ρ = some ρ1 → (∀ σ1, SR F own σ1 H ρ1 s → Agr vs σ σ1 → Q σ1 H) → gOf K t v σ H Q
  | .nm i, z, v, σ, ρ, ρ1, w, S, hv, e, h => by
    unfold Tg.set at e
    split at e
    · cases e
    · rename_i sl hsl hi
      cases e
      exact h _ (S.setPlain hi (fun pv q => hsl pv q) hv) (.set (by simpa [Tg.within] using w))
    · cases e
  | .tp ts, z, v, σ, ρ, ρ1, w, S, hv, e, h => by
    unfold Tg.set at e
    split at e
    · rename_i heq
      cases heq
    · rename_i zs heq
      cases heq
      split at e
      · rename_i hl
        obtain ⟨a, ys, rfl, hs, _, hvs⟩ := hv
        exact ⟨a, ys, rfl, hK ▸ hs, by rw [← hvs.length, hl], gOfs_set hK ts (by simpa [Tg.within] using w) S hvs e h⟩
      · cases e
    · cases e
theorem gOfs_set {K : PySem.W.Frag} (hK : K = F.g.K) {vs : List Nat} {Q : L2.St → Hp → Prop} : ∀ (ts : List Tg) {zs : List PV} {ws : List V} {σ : L2.St} {ρ ρ1 : EnvP}, Tg.withins vs ts = true → SR F own σ H ρ s → Views F.g F.L H (Bo F own) zs ws → Tg.sets ts zs ρ = some ρ1 → (∀ σ1, SR F own σ1 H ρ1 s → Agr vs σ σ1 → Q σ1 H) → gOfs K ts ws σ H Q
  | [], [], ws, σ, ρ, ρ1, w, S, hv, e, h => by
    cases (show ws = [] from hv)
    unfold Tg.sets at e
    cases e
    exact ⟨rfl, h σ S (.refl _)⟩
  | [], _ :: _, ws, σ, ρ, ρ1, w, S, hv, e, h => by unfold Tg.sets at e; cases e
  | _ :: _, [], ws, σ, ρ, ρ1, w, S, hv, e, h => by unfold Tg.sets at e; cases e
  | t :: ts, z :: zs, ws, σ, ρ, ρ1, w, S, hv, e, h => by
    obtain ⟨v, r, rfl, h1, h2⟩ := hv
    unfold Tg.sets at e
    simp only [Tg.withins, Bool.and_eq_true] at w
    cases e1 : t.set z ρ with
    | none => rw [e1] at e; cases e
    | some ρ2 =>
      rw [e1] at e
      exact ⟨v, r, rfl, gOf_set hK t w.1 S h1 e1 fun σ2 S2 a2 => gOfs_set hK ts w.2 S2 h2 e fun σ3 S3 a3 => h σ3 S3 (a2.trans a3)⟩
end
end
end EV
set_option Elab.async false
set_option linter.all false
set_option maxRecDepth 100000
/-! The pure reading of list comprehensions. -/
namespace EV
open PySem PySem.Spec L2

def wipeP (ρ : EnvP) : List Nat → EnvP
  | [] => ρ
  | v :: vs => (wipeP ρ vs).set v none
def unflagged (ρ : EnvP) (j : Nat) : Bool := match ρ[j]? with
  | some (some (_, true)) => false
  | _ => true
def condP : Option EE → EnvP → Src → Res (Bool × Src)
  | none, _, s => .ok (true, s)
  | some c, ρ, s => match c ρ s with
    | .ok (.bl b, _, s1) => .ok (b, s1)
    | _ => .err
theorem condP_some (c : EE) (ρ : EnvP) (s : Src) : condP (some c) ρ s = match c ρ s with
    | .ok (.bl b, _, s1) => .ok (b, s1)
    | _ => .err := rfl
def compGo (t : Tg) (c : Option EE) (f : EE) (ρ : EnvP) : List PV → Src → Res (List PV × Src)
  | [], s => .ok ([], s)
  | z :: zs, s => match t.set z ρ with
    | none => .err
    | some ρ1 => match condP c ρ1 s with
      | .ok (true, s1) => match f ρ1 s1 with
        | .ok (y, ty, s2) => if (ty.clean || flat y) = true then (match compGo t c f ρ zs s2 with
            | .ok (ys, s3) => .ok (y :: ys, s3)
            | _ => .err) else .err
        | _ => .err
      | .ok (false, s1) => compGo t c f ρ zs s1
      | _ => .err
def E.comp (it : EI) (t : Tg) (c : Option EE) (f : EE) (vs : List Nat) : EE := fun ρ s => match it ρ s with
  | .ok (zs, _, s1) => if vs.all (unflagged ρ) = true then (match compGo t c f (wipeP ρ vs) zs s1 with
      | .ok (ys, s2) => .ok (.lst ys, .fr, s2)
      | _ => .err) else .err
  | .exc n s1 => .exc n s1
  | .err => .err

theorem wipe_get (σ : L2.St) (j : Nat) : ∀ vs : List Nat, (wipe σ vs)[j]? = if j ∈ vs then (if j < σ.length then some none else none) else σ[j]?
  | [] => by simp [wipe]
  | v :: vs => by
    unfold wipe
    by_cases e : v = j
    · subst e
      rw [if_pos (by simp)]
      split
      · rw [List.getElem?_set_self (by rw [wipe_length]; assumption)]
      · rw [List.getElem?_eq_none (by rw [List.length_set, wipe_length]; omega)]
    · rw [List.getElem?_set_ne e, wipe_get σ j vs]
      by_cases hj : j ∈ vs
      · rw [if_pos hj, if_pos (List.mem_cons_of_mem _ hj)]
      · rw [if_neg hj, if_neg (fun q => by rcases List.mem_cons.mp q with q | q; exact e q.symm; exact hj q)]
theorem wipeP_get (ρ : EnvP) (j : Nat) : ∀ vs : List Nat, (wipeP ρ vs)[j]? = if j ∈ vs then (if j < ρ.length then some none else none) else ρ[j]?
  | [] => by simp [wipeP]
  | v :: vs => by
    have hl : (wipeP ρ vs).length = ρ.length := by
      clear v
      induction vs with
      | nil => rfl
      | cons v vs ih => unfold wipeP; rw [List.length_set, ih]
    unfold wipeP
    by_cases e : v = j
    · subst e
      rw [if_pos (by simp)]
      split
      · rw [List.getElem?_set_self (by rw [hl]; assumption)]
      · rw [List.getElem?_eq_none (by rw [List.length_set, hl]; omega)]
    · rw [List.getElem?_set_ne e, wipeP_get ρ j vs]
      by_cases hj : j ∈ vs
      · rw [if_pos hj, if_pos (List.mem_cons_of_mem _ hj)]
      · rw [if_neg hj, if_neg (fun q => by rcases List.mem_cons.mp q with q | q; exact e q.symm; exact hj q)]
theorem wipeP_length (ρ : EnvP) : ∀ vs : List Nat, (wipeP ρ vs).length = ρ.length
  | [] => rfl
  | v :: vs => by unfold wipeP; rw [List.length_set, wipeP_length ρ vs]
theorem Agr.wipe {vs : List Nat} {σ σ1 : L2.St} (a : Agr vs (wipe σ vs) σ1) : L2.wipe σ1 vs = L2.wipe σ vs := by
  apply List.ext_getElem?
  intro j
  have hl := a.1
  rw [wipe_length] at hl
  rw [wipe_get, wipe_get, hl]
  by_cases hj : j ∈ vs
  · rw [if_pos hj, if_pos hj]
  · rw [if_neg hj, if_neg hj, a.2 j hj, wipe_get, if_neg hj]

/-- the frame of a comprehension's block; D is the list that grows -/
def Fr.comp (F : Fr) (D : Addr) : Fr := ⟨F.g, F.L, fun _ => none, fun a => F.B a ∧ a ≠ D, fun _ _ => False⟩
section
variable {F : Fr} {own : Nat → Option Addr} {σ : L2.St} {H H0 H1 H2 : Hp} {ρ ρ1 : EnvP} {s s1 : Src} {D : Addr}
theorem SR.comp (S : SR F own σ H ρ s) {vs : List Nat} (hu : vs.all (unflagged ρ) = true) (hD : H D = none) : SR (F.comp D) own (wipe σ vs) (upd H D (.lst [])) (wipeP ρ vs) s := by
  have keep : ∀ b u, H b = some u → upd H D (.lst []) b = some u := fun b u e => by rw [upd_ne (ne_of_none e hD)]; exact e
  have bo : ∀ b u, H b = some u → Bo F own b → Bo (F.comp D) own b := fun b u e q => ⟨⟨q.1, ne_of_none e hD⟩, q.2⟩
  have nd : ∀ i a, own i = some a → i ∉ vs := fun i a e hi => by
    obtain ⟨pv, h⟩ := S.owned i a e
    have := List.all_eq_true.mp hu i hi
    unfold unflagged at this
    rw [h] at this
    cases this
  refine ⟨fun b u e => (by cases e), S.src.upd (S.src.some_ne hD), fun b u e => (by cases e), fun a q => S.bsrc a q.1, fun i a e => ⟨rfl, (S.new i a e).2, fun q => S.notOwn hD i (q ▸ e)⟩, S.inj, fun a n => ?_, by rw [wipe_length, wipeP_length]; exact S.len, fun i pv h => ?_, fun i pv h => ?_, fun i a e => ?_⟩
  · have ha : a ≠ D := fun q => by rw [q, upd_same] at n; cases n
    rw [upd_ne ha] at n
    exact ⟨S.fresh a n, ha⟩
  · rw [wipeP_get] at h
    split at h
    · split at h <;> cases h
    · rename_i hi
      obtain ⟨a, e1, e2, c⟩ := S.flag i pv h
      exact ⟨a, e1, by rw [wipe_get, if_neg hi]; exact e2, c.mono (fun b u e _ => keep b u e) (fun b u e q => bo b u e q) fun u e => keep a u e⟩
  · rw [wipeP_get] at h
    split at h
    · split at h <;> cases h
    · rename_i hi
      obtain ⟨v, e2, c⟩ := S.plain i pv h
      exact ⟨v, by rw [wipe_get, if_neg hi]; exact e2, c.mono (fun b u e _ => keep b u e) (fun b u e q => bo b u e q)⟩
  · obtain ⟨pv, h⟩ := S.owned i a e
    exact ⟨pv, by rw [wipeP_get, if_neg (nd i a e)]; exact h⟩
/-- the list that grows is no part of the state -/
theorem SR.updD (S : SR F own σ H ρ s) {o o' : HO} (hB : ¬ F.B D) (h0 : F.H0 D = none) (hD : H D = some o) (hf : ¬ Fix o) (hs : notSrc F.L D) : SR F own σ (upd H D o') ρ s := by
  have keepB : ∀ b u, H b = some u → F.B b ∨ Fix u → upd H D o' b = some u := fun b u e q => by
    have hb : b ≠ D := fun z => by
      subst z
      rcases q with q | q
      · exact hB q
      · rw [hD] at e; cases e; exact hf q
    rw [upd_ne hb]; exact e
  have keeps : ∀ b u, H b = some u → Bo F own b ∨ Fix u → upd H D o' b = some u := fun b u e q => keepB b u e (q.imp (·.1) id)
  refine ⟨fun b u e => ?_, S.src.upd hs, S.h0s, S.bsrc, S.new, S.inj, fun a n => ?_, S.len, fun i pv h => ?_, fun i pv h => ?_, S.owned⟩
  · rw [upd_ne fun z => by subst z; rw [h0] at e; cases e]; exact S.keep b u e
  · have ha : a ≠ D := fun q => by rw [q, upd_same] at n; cases n
    rw [upd_ne ha] at n
    exact S.fresh a n
  · obtain ⟨a, e1, e2, c⟩ := S.flag i pv h
    exact ⟨a, e1, e2, c.mono keeps (fun b u e q => q) fun u e => keepB a u e (.inl (S.new i a e1).2)⟩
  · obtain ⟨v, e2, c⟩ := S.plain i pv h
    exact ⟨v, e2, c.mono keeps (fun b u e q => q)⟩
end

/-! ### the rule -/
def CF (g : Gm) (F : Fr) : Prop := ∃ L H0 B, F = ⟨g, L, H0, B, fun _ _ => False⟩
theorem Fr.comp_cf (F : Fr) (D : Addr) : CF F.g (F.comp D) := ⟨_, _, _, rfl⟩
def teC (g : Gm) (f : EE) : TE := fun σ H Q => ∃ F, CF g F ∧ TEx F f σ H Q
def ttC (g : Gm) : Option EE → TT
  | none => tYes
  | some c => fun σ H Q => ∃ F, CF g F ∧ TTx F c σ H Q
def optT (X : Cx) (F : Fr) : List Expr → Option EE → Prop
  | [], none => True
  | [e], some c => PTX X F e c
  | _, _ => False
theorem pts_of {X : Cx} {g : Gm} : ∀ {ifs : List Expr} {c : Option EE}, (∀ L H0 B, optT X ⟨g, L, H0, B, fun _ _ => False⟩ ifs c) → PTs X ifs (ttC g c)
  | [], none, h => pts_nil
  | [e], some c, h => pts_one ⟨fun pins s σ H Q I ⟨F, ⟨L, H0, B, e⟩, q⟩ => by subst e; exact PT.run (h L H0 B) pins s σ H Q I q⟩
  | [], some _, h => (h none (fun _ => none) fun _ => True).elim
  | [_], none, h => (h none (fun _ => none) fun _ => True).elim
  | _ :: _ :: _, none, h => (h none (fun _ => none) fun _ => True).elim
  | _ :: _ :: _, some _, h => (h none (fun _ => none) fun _ => True).elim
theorem comp_step {F : Fr} {K : PySem.W.Frag} {it : EI} {c : Option EE} {f : EE} {t : Tg} {vs : List Nat} {σ : L2.St} {H : Hp} {Q : VK} (hK : K = F.g.K) (hw : t.within vs = true) (h : TEx F (E.comp it t c f vs) σ H Q) : tLc (TIx F it) (gOf K t) (ttC F.g c) (teC F.g f) vs σ H Q := by
  obtain ⟨ρ, s, own, S, h⟩ := h
  unfold E.comp at h
  refine ⟨ρ, s, own, S, ?_⟩
  cases e0 : it ρ s with
  | exc n s1 => rw [e0] at h; exact h
  | err => rw [e0] at h; exact h
  | ok q =>
    obtain ⟨zs, c0, s1⟩ := q
    rw [e0] at h
    dsimp only at h ⊢
    intro H1 J x1 sa1 hj hl hW D hD
    have S1 := S.ext x1 sa1
    split at h
    · rename_i hu
      cases e1 : compGo t c f (wipeP ρ vs) zs s1 with
      | exc n s' => rw [e1] at h; exact h.elim
      | err => rw [e1] at h; exact h.elim
      | ok q =>
        obtain ⟨ys, sE⟩ := q
        rw [e1] at h
        dsimp only at h
        have dsrc : notSrc F.L D := sa1.some_ne hD
        let W' : Nat → Hp → Prop := fun i H2 => ∃ acc dn s2 ys2, SR (F.comp D) own (wipe σ vs) H2 (wipeP ρ vs) s2 ∧ H2 D = some (.lst acc) ∧ acc.length ≤ i ∧ Views F.g F.L H2 (Bo (F.comp D) own) dn acc ∧ Ext F.L H1 H2 ∧ compGo t c f (wipeP ρ vs) (zs.drop i) s2 = .ok (ys2, sE) ∧ dn ++ ys2 = ys
        refine ⟨fun i m H2 => i + m = zs.length ∧ W' i H2, ⟨zs.length, by omega, [], [], s1, ys, S1.comp hu hD, upd_same, Nat.le_refl _, rfl, .upd hD, by simpa using e1, rfl⟩, ?_⟩
        rintro i m H2 ⟨him, acc, dn, s2, ys2, S2, hD2, hacc, hv, x2, ego, eys⟩
        obtain ⟨wgo, wstop, wyld⟩ := hW H2 fun b u e n _ => x2 b u e n
        by_cases hlt : i < zs.length
        · refine .inr ⟨wgo i hlt, fun H' => W' (i + 1) H', fun H' w => ⟨m - 1, by omega, by omega, w⟩, fun x H3 hy => ?_⟩
          obtain ⟨z, ez, vz, x3, sx3⟩ := wyld i x H3 hlt hy
          have S3 : SR (F.comp D) own (wipe σ vs) H3 (wipeP ρ vs) s2 := S2.ext (F := F.comp D) x3 (sx3 _ S2.src)
          have vz' : View F.g F.L H3 (Bo (F.comp D) own) z x := vz.mono (fun b u e _ => e) fun b u e q => ⟨⟨q.1.1, fun zz => q.2 (zz ▸ hD)⟩, q.1.2⟩
          rw [List.drop_eq_getElem_cons hlt] at ego
          have ez' : zs[i] = z := by
            rw [List.getElem?_eq_getElem hlt] at ez
            exact Option.some.inj ez
          rw [ez'] at ego
          unfold compGo at ego
          cases et : t.set z (wipeP ρ vs) with
          | none => rw [et] at ego; cases ego
          | some ρ1 =>
            rw [et] at ego
            dsimp only at ego
            refine gOf_set (F := F.comp D) hK t hw S3 vz' et fun σ3 S3' ag => ⟨ag.wipe, ?_⟩
            -- the test
            have cond : ∀ {R : Bool → Hp → Prop}, (∀ b s4 H4, condP c ρ1 s2 = .ok (b, s4) → SR (F.comp D) own σ3 H4 ρ1 s4 → Ext F.L H3 H4 → R b H4) → ttC F.g c σ3 H3 R := fun {R} hR => by
              cases c with
              | none => exact hR true s2 H3 rfl S3' (.refl _)
              | some c =>
                refine ⟨F.comp D, F.comp_cf D, ρ1, s2, own, S3', ?_⟩
                cases ec : c ρ1 s2 with
                | exc n s' => rw [condP_some, ec] at ego; cases ego
                | err => rw [condP_some, ec] at ego; cases ego
                | ok q =>
                  obtain ⟨bv, tb, s4⟩ := q
                  intro H4 v x4 sa4 vt4
                  have S4 := S3'.ext x4 sa4
                  cases bv with
                  | bl b => exact ⟨b, VT.view S3' vt4, hR b s4 H4 (by rw [condP_some, ec]) S4 x4⟩
                  | _ => rw [condP_some, ec] at ego; cases ego
            refine cond fun b s4 H4 ec S4 x4 => ?_
            rw [ec] at ego
            have hD4 : H4 D = some (.lst acc) := x4 D _ (x3 D _ hD2 dsrc) dsrc
            have hv4 : Views F.g F.L H4 (Bo (F.comp D) own) dn acc := hv.mono (fun b u e q => x4 b u (x3 b u e (by
              rcases q with q | q
              · exact S2.bsrc b q.1
              · exact S2.src.fix_ne e q)) (by
              rcases q with q | q
              · exact S2.bsrc b q.1
              · exact S2.src.fix_ne e q)) fun _ _ _ q => q
            have S4' : SR (F.comp D) own (wipe σ vs) H4 (wipeP ρ vs) s4 := S3.ext (F := F.comp D) x4 S4.src
            cases b with
            | false =>
              rw [if_neg Bool.false_ne_true]
              exact ⟨acc, dn, s4, ys2, S4', hD4, by omega, hv4, x2.trans (x3.trans x4), ego, eys⟩
            | true =>
              rw [if_pos rfl]
              dsimp only at ego
              refine ⟨F.comp D, F.comp_cf D, ρ1, s4, own, S4, ?_⟩
              cases ef : f ρ1 s4 with
              | exc n s' => rw [ef] at ego; cases ego
              | err => rw [ef] at ego; cases ego
              | ok q =>
                obtain ⟨y, ty, s5⟩ := q
                rw [ef] at ego
                dsimp only at ego
                split at ego
                · rename_i hok
                  cases er : compGo t c f (wipeP ρ vs) (zs.drop (i + 1)) s5 with
                  | exc n s' => rw [er] at ego; cases ego
                  | err => rw [er] at ego; cases ego
                  | ok q =>
                    obtain ⟨ys3, s6⟩ := q
                    rw [er] at ego
                    cases ego
                    intro H5 v x5 sa5 vt5
                    have S5 := S4.ext x5 sa5
                    have vy : View F.g F.L H5 (Bo (F.comp D) own) y v := by
                      rcases Bool.or_eq_true_iff.mp hok with hk | hk
                      · exact VT.cl S4 vt5 (Tag.clean_cases hk)
                      · exact VT.flat S4 vt5 hk
                    have hD5 : H5 D = some (.lst acc) := x5 D _ hD4 dsrc
                    have hBD : ¬ (F.comp D).B D := fun q => q.2 rfl
                    have S5' : SR (F.comp D) own (wipe σ vs) H5 (wipeP ρ vs) s5 := S4'.ext (F := F.comp D) x5 sa5
                    have up : ∀ b u, H5 b = some u → Bo (F.comp D) own b ∨ Fix u → upd H5 D (.lst (acc ++ [v])) b = some u := fun b u e q => by
                      rw [upd_ne fun zz => ?_]
                      · exact e
                      · subst zz
                        rcases q with q | q
                        · exact q.1.2 rfl
                        · rw [hD5] at e; cases e; exact q
                    refine ⟨acc, hD5, by omega, acc ++ [v], dn ++ [y], s5, ys3, S5'.updD hBD rfl hD5 id dsrc, upd_same, by rw [List.length_append, List.length_singleton]; omega, ?_, fun b u e n => ?_, er, by rw [List.append_assoc]; exact eys⟩
                    · refine Views.append ?_ (Views.one (vy.mono up fun _ _ _ q => q))
                      exact (hv4.mono (x5.keeps S4) fun _ _ _ q => q).mono up fun _ _ _ q => q
                    · rw [upd_ne (ne_of_none e hD)]
                      exact x5 b u (x4 b u (x3 b u (x2 b u e n) n) n) n
                · cases ego
        · have ei : i = zs.length := by omega
          subst ei
          refine .inl ⟨wstop, ?_⟩
          rw [List.drop_length] at ego
          unfold compGo at ego
          cases ego
          rw [List.append_nil] at eys
          subst eys
          refine h H2 (.ref D) (x1.trans x2) S2.src ⟨D, rfl, ?_, acc, hD2, by omega, hv.mono (fun b u e _ => e) fun b u e q => ⟨⟨q.1.1, q.2⟩, q.1.2⟩⟩
          exact x1.none S.src sa1 hD
    · exact h.elim
theorem px_comp {X : Cx} {F : Fr} {elt tg iter : Expr} {ifs : List Expr} {scope : Scope} {ownN : List (Str × Nat)} {pos : Pos} {it : EI} {c : Option EE} {f : EE} (t : Tg) (hN : X.N.Nodup) (hi : PIX X F tg iter it) (ok : BlkOk X.N X.env.scope scope ownN)
    (hg : ∀ (s : Shared) (H : Hp) (C : Addr) (cl : List (Str × Addr)) (fp : List Addr), PG (X.blk s H scope (compEnvC scope cl C X.env) fp) tg (gOf X.K t))
    (ht : ∀ (s : Shared) (H : Hp) (C : Addr) (cl : List (Str × Addr)) (fp : List Addr) L H0 B, optT (X.blk s H scope (compEnvC scope cl C X.env) fp) ⟨F.g, L, H0, B, fun _ _ => False⟩ ifs c)
    (he : ∀ (s : Shared) (H : Hp) (C : Addr) (cl : List (Str × Addr)) (fp : List Addr) L H0 B, PX (X.blk s H scope (compEnvC scope cl C X.env) fp) ⟨F.g, L, H0, B, fun _ _ => False⟩ elt f)
    (hw : t.within (ownN.map (·.2)) = true := by rfl) (hK : X.K = F.g.K := by rfl) (hc : X.calm = true := by rfl) (hs : ∀ x, foldedSetIterable iter X.env x = pure x := by intro _; rfl) :
    PX X F (.ListComp elt [⟨tg, iter, ifs, 0⟩] scope pos) (E.comp it t c f (ownN.map (·.2))) :=
  PE.imp (pe_lc (te := teC F.g f) (tt := ttC F.g c) hc hN hi ok hg (fun s H C cl fp => pts_of (ht s H C cl fp)) (fun s0 H0 C cl fp => ⟨fun pins s σ H Q I ⟨F', ⟨L, H0, B, e⟩, q⟩ => by subst e; exact PE.run (he s0 _ C cl fp L H0 B) pins s σ H Q I q⟩) hs) fun σ H Q h => comp_step hK hw h
end EV
set_option Elab.async false
set_option linter.all false
set_option maxRecDepth 100000
/-! The pure reading of statements. -/
namespace EV
open PySem PySem.Spec L2

def OutS (F : Fr) (r : Res (Flw × EnvP × Src)) (D : Ends) : Prop :=
  match r with
  | .ok (.nx, ρ, s) => ∀ σ H own, SR F own σ H ρ s → D.nx σ H
  | .ok (.brk, ρ, s) => ∀ σ H own, SR F own σ H ρ s → D.bk σ H
  | .ok (.cont, ρ, s) => ∀ σ H own, SR F own σ H ρ s → D.ct σ H
  | .ok (.ret z, ρ, s) => ∀ v H, (∃ σ own, SR F own σ H ρ s) → View F.g F.L H F.B z v → D.rt v H
  | .exc n s => ∀ H, (∃ σ own ρ, SR F own σ H ρ s) → F.Xn n H
  | .err => False
def TSx (F : Fr) (g : ES) : TS := fun D σ H => ∃ ρ s own, SR F own σ H ρ s ∧ OutS F (g ρ s) D
def PSX (X : Cx) (F : Fr) (st : Stmt) (g : ES) : Prop := PS X st (TSx F g)
def PSXs (X : Cx) (F : Fr) (sts : List Stmt) (g : ES) : Prop := PSs X sts (TSx F g)
theorem PS.imp {X : Cx} {e : Stmt} {t t' : TS} (h : PS X e t) (i : ∀ D σ H, t' D σ H → t D σ H) : PS X e t' := ⟨fun pins s σ H D I q => h.run pins s σ H D I (i D σ H q)⟩
theorem PSs.imp {X : Cx} {e : List Stmt} {t t' : TS} (h : PSs X e t) (i : ∀ D σ H, t' D σ H → t D σ H) : PSs X e t' := ⟨fun pins s σ H D I q => h.run pins s σ H D I (i D σ H q)⟩
/-- a value, then the rest -/
def bindE (r : Res Rv) (k : PV → Tag → Src → Res (Flw × EnvP × Src)) : Res (Flw × EnvP × Src) :=
  match r with
  | .ok (x, t, s) => k x t s
  | .exc n s => .exc n s
  | .err => .err

section
variable {F : Fr} {own : Nat → Option Addr} {σ : L2.St} {H H0 H1 : Hp} {ρ ρ1 : EnvP} {s s0 s1 : Src} {D : Ends}
theorem TEx.stepS {a : EE} {k : PV → Tag → Src → Res (Flw × EnvP × Src)} (S : SR F own σ H ρ s) (h : OutS F (bindE (a ρ s) k) D) :
    TEx F a σ H fun v H1 => ∃ x tx s1, SR F own σ H1 ρ s1 ∧ VT F own H H1 tx x v ∧ Ext F.L H H1 ∧ OutS F (k x tx s1) D := by
  refine ⟨ρ, s, own, S, ?_⟩
  unfold bindE at h
  cases e : a ρ s with
  | exc n s' => rw [e] at h; exact fun H' x sa => h H' ⟨σ, own, ρ, S.ext x sa⟩
  | err => rw [e] at h; exact h
  | ok q =>
    obtain ⟨x, tx, s1⟩ := q
    rw [e] at h
    exact fun H1 v x1 sa vt => ⟨x, tx, s1, S.ext x1 sa, vt, x1, h⟩
theorem OutS.imp {r : Res (Flw × EnvP × Src)} {D' : Ends} (h : OutS F r D) (h1 : ∀ σ H, D.nx σ H → D'.nx σ H) (h2 : ∀ σ H, D.bk σ H → D'.bk σ H) (h3 : ∀ σ H, D.ct σ H → D'.ct σ H) (h4 : ∀ v H, D.rt v H → D'.rt v H) : OutS F r D' := by
  match r, h with
  | .ok (.nx, ρ, s), h => exact fun σ H own S => h1 _ _ (h σ H own S)
  | .ok (.brk, ρ, s), h => exact fun σ H own S => h2 _ _ (h σ H own S)
  | .ok (.cont, ρ, s), h => exact fun σ H own S => h3 _ _ (h σ H own S)
  | .ok (.ret z, ρ, s), h => exact fun v H S w => h4 _ _ (h v H S w)
  | .exc n s, h => exact h
  | .err, h => exact h

/-! ### slots -/
def unown (own : Nat → Option Addr) (i : Nat) : Nat → Option Addr := fun j => if j = i then none else own j
theorem unown_eq {i j : Nat} {a : Addr} (h : unown own i j = some a) : j ≠ i ∧ own j = some a := by
  unfold unown at h
  split at h
  · cases h
  · exact ⟨by assumption, h⟩
theorem Bo.unown {i : Nat} {a : Addr} (h : Bo F own a) : Bo F (unown own i) a := ⟨h.1, fun j e => h.2 j (unown_eq e).2⟩
theorem SR.drop (S : SR F own σ H ρ s) (i : Nat) (z : PV) {v : V} (hi : i < ρ.length) (hv : View F.g F.L H (Bo F (unown own i)) z v) : SR F (unown own i) (σ.set i (some v)) H (ρ.set i (some (z, false))) s where
  keep := S.keep
  src := S.src
  h0s := S.h0s
  bsrc := S.bsrc
  new := fun j a e => S.new j a (unown_eq e).2
  inj := fun j k a e1 e2 => S.inj j k a (unown_eq e1).2 (unown_eq e2).2
  fresh := S.fresh
  len := by rw [List.length_set, List.length_set]; exact S.len
  flag := fun j pv h => by
    by_cases e : j = i
    · subst e
      rw [List.getElem?_set_self hi] at h
      cases h
    · rw [List.getElem?_set_ne (Ne.symm e)] at h
      obtain ⟨a, e1, e2, c⟩ := S.flag j pv h
      exact ⟨a, by unfold unown; rw [if_neg e]; exact e1, by rw [List.getElem?_set_ne (Ne.symm e)]; exact e2, c.mono (fun _ _ q _ => q) (fun _ _ _ q => q.unown) fun _ q => q⟩
  plain := fun j pv h => by
    by_cases e : j = i
    · subst e
      rw [List.getElem?_set_self hi] at h
      cases h
      exact ⟨v, by rw [List.getElem?_set_self (by rw [S.len]; exact hi)], hv⟩
    · rw [List.getElem?_set_ne (Ne.symm e)] at h
      obtain ⟨w, e2, c⟩ := S.plain j pv h
      exact ⟨w, by rw [List.getElem?_set_ne (Ne.symm e)]; exact e2, c.mono (fun _ _ q _ => q) (fun _ _ _ q => q.unown)⟩
  owned := fun j a h => by
    obtain ⟨hj, h⟩ := unown_eq h
    obtain ⟨pv, e⟩ := S.owned j a h
    exact ⟨pv, by rw [List.getElem?_set_ne (Ne.symm hj)]; exact e⟩
/-- a slot's own container becomes a plain value -/
theorem SR.freeze (S : SR F own σ H ρ s) {i : Nat} {pv : PV} (hi : ρ[i]? = some (some (pv, true))) : SR F (unown own i) σ H (ρ.set i (some (pv, false))) s := by
  obtain ⟨a, e1, e2, c⟩ := S.flag i pv hi
  have hv : View F.g F.L H (Bo F (unown own i)) pv (.ref a) := (c.mono (H' := H) (B' := Bo F (unown own i)) (fun _ _ q _ => q) (fun _ _ _ q => q.unown) fun _ q => q).view ⟨(S.new i a e1).2, fun j e => (unown_eq e).1 (S.inj j i a (unown_eq e).2 e1)⟩
  have T := S.drop i pv (List.getElem?_eq_some_iff.mp hi).1 hv
  have e3 : σ.set i (some (.ref a)) = σ := by
    apply List.ext_getElem?
    intro j
    by_cases e : i = j
    · subst e
      rw [List.getElem?_set_self (List.getElem?_eq_some_iff.mp e2).1, e2]
    · rw [List.getElem?_set_ne e]
  rw [e3] at T
  exact T
def reown (own : Nat → Option Addr) (i : Nat) (p : Addr) : Nat → Option Addr := fun j => if j = i then some p else own j
theorem reown_eq {i j : Nat} {p a : Addr} (h : reown own i p j = some a) : (j = i ∧ a = p) ∨ (j ≠ i ∧ own j = some a) := by
  unfold reown at h
  split at h
  · exact .inl ⟨by assumption, (Option.some.inj h).symm⟩
  · exact .inr ⟨by assumption, h⟩
/-- a new container into a slot: S0 is the state ahead of the value -/
theorem SR.setFr (S0 : SR F own σ H0 ρ s0) (S : SR F own σ H ρ s) (x : Ext F.L H0 H) (i : Nat) {z : PV} {p : Addr} (hi : i < ρ.length) (hp : H0 p = none) (hv : Cont F.g F.L H p (fun a => Bo F own a ∧ a ≠ p) z) (hH : F.H0 p = none) : SR F (reown own i p) (σ.set i (some (.ref p))) H (ρ.set i (some (z, true))) s := by
  have bo : ∀ b, Bo F own b → b ≠ p → Bo F (reown own i p) b := fun b q n => ⟨q.1, fun j e => by
    rcases reown_eq e with ⟨_, e⟩ | ⟨_, e⟩
    · exact n e
    · exact q.2 j e⟩
  have bo0 : ∀ b u, H0 b = some u → Bo F own b → Bo F (reown own i p) b := fun b u e q => bo b q (ne_of_none e hp)
  have nop : ∀ j, own j ≠ some p := S0.notOwn hp
  exact {
    keep := S.keep
    src := S.src
    h0s := S.h0s
    bsrc := S.bsrc
    new := fun j a e => by
      rcases reown_eq e with ⟨_, rfl⟩ | ⟨_, e⟩
      · exact ⟨hH, S0.fresh _ hp⟩
      · exact S.new j a e
    inj := fun j k a e1 e2 => by
      rcases reown_eq e1 with ⟨h1, q1⟩ | ⟨h1, q1⟩ <;> rcases reown_eq e2 with ⟨h2, q2⟩ | ⟨h2, q2⟩
      · exact h1.trans h2.symm
      · exact absurd (q1 ▸ q2) (nop k)
      · exact absurd (q2 ▸ q1) (nop j)
      · exact S.inj j k a q1 q2
    fresh := S.fresh
    len := by rw [List.length_set, List.length_set]; exact S.len
    flag := fun j pv h => by
      by_cases e : j = i
      · subst e
        rw [List.getElem?_set_self hi] at h
        cases h
        exact ⟨p, by unfold reown; rw [if_pos rfl], by rw [List.getElem?_set_self (by rw [S.len]; exact hi)], hv.mono (fun _ _ q _ => q) (fun b _ _ q => bo b q.1 q.2) fun _ q => q⟩
      · rw [List.getElem?_set_ne (Ne.symm e)] at h
        obtain ⟨a, e1, e2, c⟩ := S0.flag j pv h
        exact ⟨a, by unfold reown; rw [if_neg e]; exact e1, by rw [List.getElem?_set_ne (Ne.symm e)]; exact e2, c.mono (x.keeps S0) (fun b u e q => bo0 b u e q) fun u q => x a u q (S.bsrc a (S.new j a e1).2)⟩
    plain := fun j pv h => by
      by_cases e : j = i
      · subst e
        rw [List.getElem?_set_self hi] at h
        cases h
      · rw [List.getElem?_set_ne (Ne.symm e)] at h
        obtain ⟨w, e2, c⟩ := S0.plain j pv h
        exact ⟨w, by rw [List.getElem?_set_ne (Ne.symm e)]; exact e2, c.mono (x.keeps S0) fun b u e q => bo0 b u e q⟩
    owned := fun j a h => by
      by_cases e : j = i
      · subst e
        exact ⟨z, by rw [List.getElem?_set_self hi]⟩
      · rcases reown_eq h with ⟨h1, _⟩ | ⟨_, h⟩
        · exact absurd h1 e
        · obtain ⟨pv, e3⟩ := S.owned j a h
          exact ⟨pv, by rw [List.getElem?_set_ne (Ne.symm e)]; exact e3⟩ }
/-- the own container of a slot changes -/
theorem SR.mut (S : SR F own σ H ρ s) {i : Nat} {a : Addr} {z z' : PV} {o' : HO} (hi : ρ[i]? = some (some (z, true))) (ha : own i = some a) (hc : Cont F.g F.L (upd H a o') a (Bo F own) z') : SR F own σ (upd H a o') (ρ.set i (some (z', true))) s := by
  obtain ⟨u, hu, nf⟩ := S.ownAt ha
  have hl := (List.getElem?_eq_some_iff.mp hi).1
  have ns : notSrc F.L a := S.bsrc a (S.new i a ha).2
  have keeps : ∀ b w, H b = some w → Bo F own b ∨ Fix w → upd H a o' b = some w := fun b w e q => by
    rw [upd_ne fun z => ?_]
    · exact e
    · subst z
      rcases q with q | q
      · exact q.2 i ha
      · rw [hu] at e; cases e; exact nf q
  exact {
    keep := fun b w e => by
      rw [upd_ne fun z => ?_]
      · exact S.keep b w e
      · subst z; rw [(S.new i _ ha).1] at e; cases e
    src := S.src.upd ns
    h0s := S.h0s
    bsrc := S.bsrc
    new := S.new
    inj := S.inj
    fresh := fun b n => by
      have hb : b ≠ a := fun q => by rw [q, upd_same] at n; cases n
      rw [upd_ne hb] at n
      exact S.fresh b n
    len := by rw [List.length_set]; exact S.len
    flag := fun j pv h => by
      by_cases e : j = i
      · subst e
        rw [List.getElem?_set_self hl] at h
        cases h
        obtain ⟨a', e1, e2, _⟩ := S.flag j z hi
        rw [ha] at e1; cases e1
        exact ⟨a, ha, e2, hc⟩
      · rw [List.getElem?_set_ne (Ne.symm e)] at h
        obtain ⟨b, e1, e2, c⟩ := S.flag j pv h
        exact ⟨b, e1, e2, c.mono keeps (fun _ _ _ q => q) fun w q => by rw [upd_ne fun z => e (S.inj j i a (by rw [← z]; exact e1) ha)]; exact q⟩
    plain := fun j pv h => by
      by_cases e : j = i
      · subst e
        rw [List.getElem?_set_self hl] at h
        cases h
      · rw [List.getElem?_set_ne (Ne.symm e)] at h
        obtain ⟨w, e2, c⟩ := S.plain j pv h
        exact ⟨w, e2, c.mono keeps fun _ _ _ q => q⟩
    owned := fun j b h => by
      by_cases e : j = i
      · subst e
        exact ⟨z', by rw [List.getElem?_set_self hl]⟩
      · obtain ⟨pv, e3⟩ := S.owned j b h
        exact ⟨pv, by rw [List.getElem?_set_ne (Ne.symm e)]; exact e3⟩ }

theorem own_keeps {F : Fr} {own : Nat → Option Addr} {H : Hp} {i : Nat} {a : Addr} {o o' : HO} (ha : own i = some a) (e : H a = some o) (nf : ¬ Fix o) : ∀ b w, H b = some w → Bo F own b ∨ Fix w → upd H a o' b = some w := fun b w e' q => by
  rw [upd_ne fun z => ?_]
  · exact e'
  · subst z
    rcases q with q | q
    · exact q.2 i ha
    · rw [e] at e'; cases e'; exact nf q
/-- a value by its tag into a slot -/
def setv (ρ : EnvP) (i : Nat) (z : PV) (t : Tag) : Option EnvP :=
  if i < ρ.length then match t with
    | .fr => some (ρ.set i (some (z, true)))
    | .cl => some (ρ.set i (some (z, false)))
    | .own j => some ((ρ.set j (some (z, false))).set i (some (z, false)))
    | .di => if flat z then some (ρ.set i (some (z, false))) else none
  else none
theorem SR.setv (S0 : SR F own σ H0 ρ s0) (S : SR F own σ H ρ s) (x : Ext F.L H0 H) {i : Nat} {z : PV} {v : V} {t : Tag} (vt : VT F own H0 H t z v) (e : setv ρ i z t = some ρ1) : ∃ own', SR F own' (σ.set i (some v)) H ρ1 s := by
  unfold EV.setv at e
  split at e
  · rename_i hi
    cases t with
    | fr =>
      cases e
      obtain ⟨p, rfl, hp, hc⟩ := vt
      refine ⟨_, SR.setFr S0 S x i hi hp hc ?_⟩
      cases q : F.H0 p with
      | none => rfl
      | some u => rw [S0.keep p u q] at hp; cases hp
    | cl =>
      cases e
      exact ⟨_, S.drop i z hi (vt.mono (fun _ _ q _ => q) fun _ _ _ q => q.unown)⟩
    | own j =>
      cases e
      obtain ⟨a, e1, rfl, hc⟩ := vt
      obtain ⟨pv, hj⟩ := S.owned j a e1
      obtain ⟨a', e2, e3, hc'⟩ := S.flag j pv hj
      rw [e1] at e2; cases e2
      -- the slot holds just this container
      have hz : ∀ {z z' : PV}, Cont F.g F.L H a (Bo F own) z → View F.g F.L H (Bo F (unown own j)) z (.ref a) := fun {z z'} c => (c.mono (H' := H) (B' := Bo F (unown own j)) (fun _ _ q _ => q) (fun _ _ _ q => q.unown) fun _ q => q).view ⟨(S.new j a e1).2, fun k e => (unown_eq e).1 (S.inj k j a (unown_eq e).2 e1)⟩
      have hjl := (List.getElem?_eq_some_iff.mp hj).1
      have T := S.drop j z (v := .ref a) hjl (hz (z' := z) hc)
      have e4 : σ.set j (some (.ref a)) = σ := by
        apply List.ext_getElem?
        intro k
        by_cases e : j = k
        · subst e
          rw [List.getElem?_set_self (List.getElem?_eq_some_iff.mp e3).1, e3]
        · rw [List.getElem?_set_ne e]
      rw [e4] at T
      exact ⟨_, T.drop i z (by rw [List.length_set]; exact hi) ((hz (z' := z) hc).mono (fun _ _ q _ => q) fun _ _ _ q => q.unown)⟩
    | di =>
      dsimp only at e
      split at e
      · rename_i hf
        cases e
        exact ⟨_, S.drop i z hi (View.flat (fun _ _ q _ => q) _ _ hf vt)⟩
      · cases e
  · cases e
end

/-! ### the rules -/
def Y.nop : ES := fun ρ s => .ok (.nx, ρ, s)
def Y.seq (a b : ES) : ES := fun ρ s => match a ρ s with
  | .ok (.nx, ρ1, s1) => b ρ1 s1
  | r => r
def Y.asg (i : Nat) (f : EE) : ES := fun ρ s => bindE (f ρ s) fun x t s1 => match setv ρ i x t with
  | some ρ1 => .ok (.nx, ρ1, s1)
  | none => .err
def Y.asgT (t : Tg) (f : EE) : ES := fun ρ s => bindE (f ρ s) fun x tx s1 => if (tx.clean || flat x) = true then (match t.set x ρ with
  | some ρ1 => .ok (.nx, ρ1, s1)
  | none => .err) else .err
def Y.ret (f : EE) : ES := fun ρ s => bindE (f ρ s) fun x t s1 => .ok (.ret x, ρ, s1)
def Y.ite (c : EE) (a b : ES) : ES := fun ρ s => bindE (c ρ s) fun x t s1 => match x with
  | .bl true => a ρ s1
  | .bl false => b ρ s1
  | _ => .err
def Y.brk : ES := fun ρ s => .ok (.brk, ρ, s)
def Y.cont : ES := fun ρ s => .ok (.cont, ρ, s)
/-- the list, the dict that is slot i's own -/
def lstAt (ρ : EnvP) (i : Nat) : Option (List PV) := match ρ[i]? with
  | some (some (.lst xs, true)) => some xs
  | _ => none
def dicAt (ρ : EnvP) (i : Nat) : Option (List Key × List PV) := match ρ[i]? with
  | some (some (.dK ks vs, true)) => some (ks, vs)
  | _ => none
theorem lstAt_eq {ρ : EnvP} {i : Nat} {xs : List PV} (h : lstAt ρ i = some xs) : ρ[i]? = some (some (.lst xs, true)) := by
  unfold lstAt at h
  split at h
  · cases h; assumption
  · cases h
theorem dicAt_eq {ρ : EnvP} {i : Nat} {ks : List Key} {vs : List PV} (h : dicAt ρ i = some (ks, vs)) : ρ[i]? = some (some (.dK ks vs, true)) := by
  unfold dicAt at h
  split at h
  · cases h; assumption
  · cases h
def Y.append (i : Nat) (f : EE) : ES := fun ρ s => match lstAt ρ i with
  | some xs => bindE (f ρ s) fun y t s1 => if (t.clean || flat y) = true ∧ xs.length < sizeLine then .ok (.nx, ρ.set i (some (.lst (xs ++ [y]), true)), s1) else .err
  | none => .err
def Y.extend (i : Nat) (f : EE) : ES := fun ρ s => match lstAt ρ i with
  | some xs => bindE (f ρ s) fun y t s1 => match y with
    | .lst ys => if (t.clean || flats ys) = true ∧ xs.length + ys.length ≤ sizeLine then .ok (.nx, ρ.set i (some (.lst (xs ++ ys), true)), s1) else .err
    | _ => .err
  | none => .err
def Y.dset (i : Nat) (fk fv : EE) : ES := fun ρ s => bindE (fv ρ s) fun y t s1 => match dicAt ρ i with
  | some (ks, vs) => bindE (fk ρ s1) fun k _ s2 => match keyOf k with
    | some k => if (t.clean || flat y) = true ∧ ks.length < sizeLine then .ok (.nx, ρ.set i (some (.dK (dput ks vs k y).1 (dput ks vs k y).2, true)), s2) else .err
    | none => .err
  | none => .err
section
variable {X : Cx} {F : Fr} {e tg c : Expr} {f fc fk fv : EE} {pos pos' : Pos} {st : Stmt} {sts : List Stmt} {a b : ES}
theorem psx_nil : PSXs X F [] Y.nop := PSs.imp pss_nil fun D σ H ⟨ρ, s, own, S, h⟩ => h σ H own S
theorem psx_cons (h1 : PSX X F st a) (h2 : PSXs X F sts b) : PSXs X F (st :: sts) (Y.seq a b) := by
  refine PSs.imp (pss_cons h1 h2) fun D σ H ⟨ρ, s, own, S, h⟩ => ⟨ρ, s, own, S, ?_⟩
  unfold Y.seq at h
  match e : a ρ s, h with
  | .ok (.nx, ρ1, s1), h => exact fun σ H own S => ⟨ρ1, s1, own, S, h⟩
  | .ok (.brk, ρ, s), h => exact h
  | .ok (.cont, ρ, s), h => exact h
  | .ok (.ret z, ρ, s), h => exact h
  | .exc n s, h => exact h
  | .err, h => exact h
theorem psx_one (h1 : PSX X F st a) : PSXs X F [st] a := pss_one h1
theorem psx_pass : PSX X F (.Pass pos) Y.nop := PS.imp ps_pass fun D σ H ⟨ρ, s, own, S, h⟩ => h σ H own S
theorem psx_break : PSX X F (.Break pos) Y.brk := PS.imp ps_break fun D σ H ⟨ρ, s, own, S, h⟩ => h σ H own S
theorem psx_continue : PSX X F (.Continue pos) Y.cont := PS.imp ps_continue fun D σ H ⟨ρ, s, own, S, h⟩ => h σ H own S
theorem psx_set {i : Nat} {x : Str} (hN : X.N.Nodup) (he : PX X F e f) (hi : X.N[i]? = some x := by rfl) (hx : Loc X.env.scope x := by first | exact Or.inl rfl | exact Or.inr rfl) (hs : swapsWith e (some (.Name x pos')) pos.line X.env = pure false := by rfl)
    (hf : X.fn x = true ∨ X.env.scope.names.lookup x = some .local := by first | exact .inl rfl | exact .inr rfl) : PSX X F (.Assign [.Name x pos'] e pos) (Y.asg i f) := by
  refine PS.imp (ps_set hN hi hx he hs hf) fun D σ H ⟨ρ, s, own, S, h⟩ => ?_
  unfold Y.asg at h
  refine TEx.mono (TEx.stepS S h) fun v H1 ⟨x, tx, s1, S1, vt, x1, h1⟩ => ?_
  cases e : setv ρ i x tx with
  | none => rw [e] at h1; exact h1.elim
  | some ρ1 =>
    rw [e] at h1
    obtain ⟨own', T⟩ := SR.setv S S1 x1 vt e
    exact h1 _ _ _ T
theorem psx_asgT (t : Tg) (he : PX X F e f) (hg : PG X tg (gOf X.K t)) (hK : X.K = F.g.K := by rfl) (hw : ∃ vs, t.within vs = true := by exact ⟨List.range 64, by decide⟩) (hs : swapsWithSole [tg] e pos.line X.env = pure false := by rfl) (hsw : swappedStores [tg] e X.env = pure none := by rfl)
    (h1 : (assignEach [tg] X.env).map (·.2) = [assign tg X.env] := by rfl) : PSX X F (.Assign [tg] e pos) (Y.asgT t f) := by
  refine PS.imp (ps_asg he hg hs hsw h1) fun D σ H ⟨ρ, s, own, S, h⟩ => ?_
  unfold Y.asgT at h
  refine TEx.mono (TEx.stepS S h) fun v H1 ⟨x, tx, s1, S1, vt, x1, h1⟩ => ?_
  obtain ⟨vs, hw⟩ := hw
  split at h1
  · rename_i hc
    cases e : t.set x ρ with
    | none => rw [e] at h1; exact h1.elim
    | some ρ1 =>
      rw [e] at h1
      refine gOf_set hK t hw S1 ?_ e fun σ1 T _ => h1 _ _ _ T
      rcases Bool.or_eq_true_iff.mp hc with hk | hk
      · exact VT.cl S vt (Tag.clean_cases hk)
      · exact VT.flat S vt hk
  · exact h1.elim
theorem psx_ret (he : PX X F e f) : PSX X F (.Return (some e) pos) (Y.ret f) := by
  refine PS.imp (ps_ret he) fun D σ H ⟨ρ, s, own, S, h⟩ => ?_
  unfold Y.ret at h
  exact TEx.mono (TEx.stepS S h) fun v H1 ⟨x, tx, s1, S1, vt, x1, h1⟩ => h1 v H1 ⟨σ, own, S1⟩ (VT.view S vt)
theorem psx_if {as bs : List Stmt} (hc : PTX X F c fc) (ha : PSXs X F as a) (hb : PSXs X F bs b) : PSX X F (.If c as bs pos) (Y.ite fc a b) := by
  refine PS.imp (ps_if hc ha hb) fun D σ H ⟨ρ, s, own, S, h⟩ => ?_
  unfold Y.ite at h
  refine TEx.mono (TEx.stepS S h) fun v H1 ⟨x, tx, s1, S1, vt, x1, h1⟩ => ?_
  split at h1
  · exact ⟨true, VT.view S vt, ρ, s1, own, S1, h1⟩
  · exact ⟨false, VT.view S vt, ρ, s1, own, S1, h1⟩
  · exact h1.elim

/-! ### append, extend, d[k] = v -/
theorem Cont.lst_inv {g : Gm} {L : Option (Addr × Addr)} {H : Hp} {a : Addr} {B : Addr → Prop} {xs : List PV} (c : Cont g L H a B (.lst xs)) : ∃ ys, H a = some (.lst ys) ∧ ys.length ≤ sizeLine ∧ Views g L H B xs ys := c
theorem psx_append {i : Nat} {x : Str} {p apos cpos : Pos} (he : PX X F e f) (hN : X.N[i]? = some x := by rfl) (hv : Vis X.env.scope x := by first | exact Or.inl rfl | exact Or.inr (Or.inl rfl) | exact Or.inr (Or.inr rfl)) (hd : (x == ("__debug__" : Str)) = false := by decide)
    (hcd : (x == ("__classdict__" : Str)) = false := by decide) (hbase : attributeBase (.Name x p) "append" X.env (eval (.Name x p) X.env) = eval (.Name x p) X.env := by rfl)
    (hfew : ((backTo cpos (starEach [e] X.env)).all (fun x => !x.1) && (backToKw cpos (keywordEach [] X.env)).all (fun x => x.1.isSome)
      && decide ([e].length + ([] : List Keyword).length + (if ([] : List Keyword).isEmpty then 0 else 1) < 30)) = true := by rfl)
    (hline : (apos.endLine == cpos.line) = true := by rfl) (hs : starEach [e] X.env = (false, eval e X.env) :: starEach [] X.env := by rfl) (hplain : (backTo cpos (starEach [] X.env)).any (·.1) = false := by rfl)
    (hsw : swapsWith (.Call (.Attribute (.Name x p) "append" apos) [e] [] cpos) none pos.line X.env = pure false := by rfl) : PSX X F (.Expr (.Call (.Attribute (.Name x p) "append" apos) [e] [] cpos) pos) (Y.append i f) := by
  refine PS.imp (ps_expr (pe_bm PySem.F.plainAttrs_list PySem.F.slot_list_append PySem.F.type_list_append mt_append (pv i hN hv hd hcd) (pa_cons he pa_nil hs) hbase hfew hline hs hplain) hsw) fun D σ H ⟨ρ, s, own, S, h⟩ => ?_
  unfold Y.append at h
  cases hr : lstAt ρ i with
  | none => rw [hr] at h; exact h.elim
  | some xs =>
    rw [hr] at h
    have hr := lstAt_eq hr
    obtain ⟨a, e1, e2, c⟩ := S.flag i _ hr
    obtain ⟨ys, e3, _⟩ := c.lst_inv
    refine ⟨.ref a, e2, .inl ⟨rfl, _, SqL.of e3⟩, ?_⟩
    refine TEx.mono (TEx.stepS S h) fun v H1 ⟨y, t, s1, S1, vt, x1, h1⟩ => ?_
    split at h1
    · rename_i hc
      obtain ⟨a', e1', e2', c⟩ := S1.flag i _ hr
      rw [e1] at e1'; cases e1'
      obtain ⟨ys', e3', hl, hv⟩ := c.lst_inv
      have vy : View F.g F.L H1 (Bo F own) y v := by
        rcases Bool.or_eq_true_iff.mp hc.1 with hk | hk
        · exact VT.cl S vt (Tag.clean_cases hk)
        · exact VT.flat S vt hk
      rw [hv.length] at hc
      refine ⟨a, ys', v, rfl, rfl, e3', hc.2, h1 _ _ _ (S1.mut hr e1 ?_)⟩
      have keeps := own_keeps (F := F) (o' := .lst (ys' ++ [v])) e1 e3' id
      exact ⟨ys' ++ [v], upd_same, by rw [List.length_append, List.length_singleton]; omega, (hv.mono keeps fun _ _ _ q => q).append (.one (vy.mono keeps fun _ _ _ q => q))⟩
    · exact h1.elim
theorem psx_extend {i : Nat} {x : Str} {p apos cpos : Pos} (he : PX X F e f) (hN : X.N[i]? = some x := by rfl) (hv : Vis X.env.scope x := by first | exact Or.inl rfl | exact Or.inr (Or.inl rfl) | exact Or.inr (Or.inr rfl)) (hd : (x == ("__debug__" : Str)) = false := by decide)
    (hcd : (x == ("__classdict__" : Str)) = false := by decide) (hbase : attributeBase (.Name x p) "extend" X.env (eval (.Name x p) X.env) = eval (.Name x p) X.env := by rfl)
    (hfew : ((backTo cpos (starEach [e] X.env)).all (fun x => !x.1) && (backToKw cpos (keywordEach [] X.env)).all (fun x => x.1.isSome)
      && decide ([e].length + ([] : List Keyword).length + (if ([] : List Keyword).isEmpty then 0 else 1) < 30)) = true := by rfl)
    (hline : (apos.endLine == cpos.line) = true := by rfl) (hs : starEach [e] X.env = (false, eval e X.env) :: starEach [] X.env := by rfl) (hplain : (backTo cpos (starEach [] X.env)).any (·.1) = false := by rfl)
    (hsw : swapsWith (.Call (.Attribute (.Name x p) "extend" apos) [e] [] cpos) none pos.line X.env = pure false := by rfl) : PSX X F (.Expr (.Call (.Attribute (.Name x p) "extend" apos) [e] [] cpos) pos) (Y.extend i f) := by
  refine PS.imp (ps_expr (pe_bm PySem.F.plainAttrs_list PySem.F.slot_list_extend PySem.F.type_list_extend mt_extend (pv i hN hv hd hcd) (pa_cons he pa_nil hs) hbase hfew hline hs hplain) hsw) fun D σ H ⟨ρ, s, own, S, h⟩ => ?_
  unfold Y.extend at h
  cases hr : lstAt ρ i with
  | none => rw [hr] at h; exact h.elim
  | some xs =>
    rw [hr] at h
    have hr := lstAt_eq hr
    obtain ⟨a, e1, e2, c⟩ := S.flag i _ hr
    obtain ⟨ys, e3, _⟩ := c.lst_inv
    refine ⟨.ref a, e2, .inl ⟨rfl, _, SqL.of e3⟩, ?_⟩
    refine TEx.mono (TEx.stepS S h) fun v H1 ⟨y, t, s1, S1, vt, x1, h1⟩ => ?_
    split at h1
    · rename_i zs
      split at h1
      · rename_i hc
        obtain ⟨a', e1', e2', c⟩ := S1.flag i _ hr
        rw [e1] at e1'; cases e1'
        obtain ⟨ys', e3', hl, hv⟩ := c.lst_inv
        obtain ⟨b, ws, rfl, hb, hws⟩ : ∃ b ws, v = .ref b ∧ H1 b = some (.lst ws) ∧ Views F.g F.L H1 (Bo F own) zs ws := by
          by_cases ht : t = .di
          · subst ht
            obtain ⟨b, ws, rfl, _, hb, _, hv⟩ := VT.itemsB S vt (.inr rfl)
            exact ⟨b, ws, rfl, hb rfl, Views.flat (fun _ _ q _ => q) _ _ (by simpa [Tag.clean] using hc.1) hv⟩
          · obtain ⟨b, ws, rfl, _, _, hb, _, hv⟩ := VT.items S vt (.inr rfl) ht
            exact ⟨b, ws, rfl, hb rfl, hv⟩
        rw [hv.length, hws.length] at hc
        refine ⟨a, b, ys', ws, rfl, rfl, e3', hb, hc.2, h1 _ _ _ (S1.mut hr e1 ?_)⟩
        have keeps := own_keeps (F := F) (o' := .lst (ys' ++ ws)) e1 e3' id
        exact ⟨ys' ++ ws, upd_same, by rw [List.length_append]; exact hc.2, (hv.mono keeps fun _ _ _ q => q).append (hws.mono keeps fun _ _ _ q => q)⟩
      · exact h1.elim
    · exact h1.elim
theorem psx_dset {i : Nat} {x : Str} {p spos : Pos} {k v : Expr} {n : Nat} (hr : Room n X.A) (hk : PX X F k fk) (hv' : PX X F v fv) (hN : X.N[i]? = some x := by rfl) (hv : Vis X.env.scope x := by first | exact Or.inl rfl | exact Or.inr (Or.inl rfl) | exact Or.inr (Or.inr rfl)) (hd : (x == ("__debug__" : Str)) = false := by decide)
    (hcd : (x == ("__classdict__" : Str)) = false := by decide) (hs : swapsWith v (some (.Subscript (.Name x p) k spos)) pos.line X.env = pure false := by rfl) : PSX X F (.Assign [.Subscript (.Name x p) k spos] v pos) (Y.dset i fk fv) := by
  refine PS.imp (ps_dput (hu_of hr) (pv i hN hv hd hcd) hk hv' hs) fun D σ H ⟨ρ, s, own, S, h⟩ => ?_
  unfold Y.dset at h
  refine TEx.mono (TEx.stepS S h) fun v H1 ⟨y, t, s1, S1, vt, x1, h1⟩ => ?_
  cases hr : dicAt ρ i with
  | none => rw [hr] at h1; exact h1.elim
  | some q =>
    obtain ⟨ks, vs⟩ := q
    rw [hr] at h1
    have hr := dicAt_eq hr
    obtain ⟨a, e1, e2, _⟩ := S.flag i _ hr
    refine ⟨.ref a, e2, ?_⟩
    refine TEx.mono (TEx.stepS S1 h1) fun kv H2 ⟨k, tk, s2, S2, vt2, x2, h2⟩ => ?_
    split at h2
    · rename_i k hk
      split at h2
      · rename_i hc
        obtain ⟨a', e1', _, c⟩ := S2.flag i _ hr
        rw [e1] at e1'; cases e1'
        obtain ⟨ys, e3, hl, hsz, hvs⟩ := c
        have vt' := VT.ext S S1 vt x2
        have vy : View F.g F.L H2 (Bo F own) y v := by
          rcases Bool.or_eq_true_iff.mp hc.1 with hk | hk
          · exact VT.cl S vt' (Tag.clean_cases hk)
          · exact VT.flat S vt' hk
        have ek := keyOf_view (VT.view S1 vt2) hk
        subst ek
        obtain ⟨zs, e4, e5, hz, e6⟩ := dput_put (j := k) vy hl hvs
        have hlen : (ks.zip ys).length < sizeLine := by rw [List.length_zip]; omega
        refine ⟨a, _, rfl, .inl ⟨_, k, e3, rfl, hlen, rfl⟩, ?_⟩
        rw [e4]
        refine h2 _ _ _ (S2.mut hr e1 ?_)
        have keeps := own_keeps (F := F) (o' := .dK ((dput ks vs k y).1.zip zs)) e1 e3 id
        exact ⟨zs, upd_same, e5, by omega, hz.mono keeps fun _ _ _ q => q⟩
      · exact h2.elim
    · exact h2.elim
end
end EV
set_option Elab.async false
set_option linter.all false
set_option maxRecDepth 100000
/-! The pure reading of loops. -/
namespace EV
open PySem PySem.Spec L2

def forGo (t : Tg) (b : ES) : List PV → ES
  | [], ρ, s => .ok (.nx, ρ, s)
  | z :: zs, ρ, s => match t.set z ρ with
    | none => .err
    | some ρ1 => match b ρ1 s with
      | .ok (.nx, ρ2, s2) => forGo t b zs ρ2 s2
      | .ok (.cont, ρ2, s2) => forGo t b zs ρ2 s2
      | .ok (.brk, ρ2, s2) => .ok (.nx, ρ2, s2)
      | r => r
def frzP (ρ : EnvP) : Option Nat → EnvP
  | none => ρ
  | some j => match ρ[j]? with
    | some (some (pv, _)) => ρ.set j (some (pv, false))
    | _ => ρ
def Y.for (it : EI) (t : Tg) (b : ES) : ES := fun ρ s => match it ρ s with
  | .ok (zs, c, s1) => forGo t b zs (frzP ρ c) s1
  | .exc n s1 => .exc n s1
  | .err => .err
def whileGo (c : EE) (b : ES) : Nat → ES
  | 0, _, _ => .err
  | n + 1, ρ, s => bindE (c ρ s) fun x _ s1 => match x with
    | .bl true => (match b ρ s1 with
      | .ok (.nx, ρ2, s2) => whileGo c b n ρ2 s2
      | .ok (.cont, ρ2, s2) => whileGo c b n ρ2 s2
      | .ok (.brk, ρ2, s2) => .ok (.nx, ρ2, s2)
      | r => r)
    | .bl false => .ok (.nx, ρ, s1)
    | _ => .err
def Y.while (n : Nat) (c : EE) (b : ES) : ES := whileGo c b n

section
variable {F : Fr} {own : Nat → Option Addr} {σ : L2.St} {H H0 H1 : Hp} {ρ ρ1 : EnvP} {s s0 s1 : Src} {D : Ends}
/-- a smaller wish for what is kept -/
theorem SR.less {K : Hp} (S : SR { F with H0 := K } own σ H ρ s) (hk : ∀ b u, F.H0 b = some u → K b = some u) : SR F own σ H ρ s where
  keep := fun b u e => S.keep b u (hk b u e)
  src := S.src
  h0s := fun b u e => S.h0s b u (hk b u e)
  bsrc := S.bsrc
  new := fun i a e => by
    refine ⟨?_, (S.new i a e).2⟩
    cases q : F.H0 a with
    | none => rfl
    | some u =>
      have h := hk a u q
      rw [show K a = none from (S.new i a e).1] at h
      cases h
  inj := S.inj
  fresh := S.fresh
  len := S.len
  flag := S.flag
  plain := S.plain
  owned := S.owned
theorem OutS.less {K : Hp} {r : Res (Flw × EnvP × Src)} (h : OutS F r D) (hk : ∀ b u, F.H0 b = some u → K b = some u) : OutS { F with H0 := K } r D := by
  match r, h with
  | .ok (.nx, ρ, s), h => exact fun σ H own S => h σ H own (S.less hk)
  | .ok (.brk, ρ, s), h => exact fun σ H own S => h σ H own (S.less hk)
  | .ok (.cont, ρ, s), h => exact fun σ H own S => h σ H own (S.less hk)
  | .ok (.ret z, ρ, s), h => exact fun v H ⟨σ, own, S⟩ w => h v H ⟨σ, own, S.less hk⟩ w
  | .exc n s, h => exact fun H ⟨σ, own, ρ, S⟩ => h H ⟨σ, own, ρ, S.less hk⟩
  | .err, h => exact h
open Classical in
/-- what a loop's body must leave as it is -/
noncomputable def prot (F : Fr) (own : Nat → Option Addr) (H1 : Hp) : Hp := fun b => if notSrc F.L b ∧ ∀ j, own j ≠ some b then H1 b else none
theorem prot_some {b : Addr} {u : HO} (h : prot F own H1 b = some u) : H1 b = some u ∧ notSrc F.L b ∧ ∀ j, own j ≠ some b := by
  unfold prot at h
  split at h
  · rename_i hc
    exact ⟨h, hc.1, hc.2⟩
  · cases h
theorem prot_of {b : Addr} {u : HO} (h : H1 b = some u) (n : notSrc F.L b) (o : ∀ j, own j ≠ some b) : prot F own H1 b = some u := by
  unfold prot
  rw [if_pos ⟨n, o⟩]; exact h
theorem SR.prot (S : SR F own σ H ρ s) : SR { F with H0 := EV.prot F own H } own σ H ρ s where
  keep := fun b u e => (prot_some e).1
  src := S.src
  h0s := fun b u e => (prot_some e).2.1
  bsrc := S.bsrc
  new := fun i a e => by
    refine ⟨?_, (S.new i a e).2⟩
    show EV.prot F own H a = none
    unfold EV.prot
    rw [if_neg fun q => q.2 i e]
  inj := S.inj
  fresh := S.fresh
  len := S.len
  flag := S.flag
  plain := S.plain
  owned := S.owned
theorem SR.protLess (S : SR F own σ H ρ s) : ∀ b u, F.H0 b = some u → EV.prot F own H b = some u := fun b u e =>
  prot_of (S.keep b u e) (S.h0s b u e) fun j q => by rw [(S.new j b q).1] at e; cases e
/-- the slot that is walked is frozen -/
theorem SR.frz (S : SR F own σ H ρ s) {c : Option Nat} (hc : ∀ j, c = some j → ∃ pv, ρ[j]? = some (some (pv, true))) : ∃ own', SR F own' σ H (frzP ρ c) s ∧ (∀ j a, own' j = some a → own j = some a ∧ c ≠ some j) ∧ ∀ j a, own j = some a → c ≠ some j → own' j = some a := by
  cases c with
  | none => exact ⟨own, S, fun j a e => ⟨e, fun q => nomatch q⟩, fun j a e _ => e⟩
  | some j =>
    obtain ⟨pv, e⟩ := hc j rfl
    refine ⟨unown own j, ?_, fun k a q => ⟨(unown_eq q).2, fun z => (unown_eq q).1 (Option.some.inj z).symm⟩, fun k a q n => ?_⟩
    · show SR F _ σ H (match ρ[j]? with | some (some (pv, _)) => ρ.set j (some (pv, false)) | _ => ρ) s
      rw [e]
      exact S.freeze e
    · unfold unown
      rw [if_neg fun z => n (by rw [z])]; exact q
end

section
variable {X : Cx} {F : Fr} {tg iter c : Expr} {body : List Stmt} {it : EI} {fc : EE} {b : ES} {pos : Pos}
def tsC (F : Fr) (b : ES) : TS := fun D σ H => ∃ K : Hp, TSx { F with H0 := K } b D σ H
theorem psx_for (t : Tg) (hp : PassesOwn (model X.prog X.w) X.A X.env X.xe) (hi : PIX X F tg iter it) (hg : PG X tg (gOf X.K t)) (hb : ∀ K : Hp, PSXs X { F with H0 := K } body b) (hw : ∃ vs, t.within vs = true := by exact ⟨List.range 64, by decide⟩)
    (hK : X.K = F.g.K := by rfl) (hc : X.calm = true := by rfl) (hs : ∀ x, foldedSetIterable iter X.env x = pure x := by intro _; rfl) : PSX X F (.For tg iter body [] pos) (Y.for it t b) := by
  have hb' : PSs X body (tsC F b) := ⟨fun pins s σ H D I ⟨K, q⟩ => (hb K).run pins s σ H D I q⟩
  refine PS.imp (ps_for hp hc hi hg hb' hs) fun D σ H ⟨ρ, s, own, S, h⟩ => ?_
  unfold Y.for at h
  refine ⟨ρ, s, own, S, ?_⟩
  cases e0 : it ρ s with
  | exc n s1 => rw [e0] at h; exact fun H' x sa => h H' ⟨σ, own, ρ, S.ext x sa⟩
  | err => rw [e0] at h; exact h
  | ok q =>
    obtain ⟨zs, c, s1⟩ := q
    rw [e0] at h
    dsimp only at h ⊢
    intro H1 J x1 sa1 hj hl hW
    have S1 := S.ext x1 sa1
    obtain ⟨own1, T1, ho1, ho2⟩ := S1.frz hj
    obtain ⟨vs, hw⟩ := hw
    let F' : Fr := { F with H0 := prot F own1 H1 }
    have less := T1.protLess
    refine ⟨fun i m σ H => i + m = zs.length ∧ ∃ ρ s own, SR F' own σ H ρ s ∧ OutS F (forGo t b (zs.drop i) ρ s) D, ⟨zs.length, by omega, frzP ρ c, s1, own1, T1.prot, by simpa using h⟩, ?_⟩
    rintro i m σ2 H2 ⟨him, ρ2, s2, own2, S2, h2⟩
    obtain ⟨wgo, wstop, wyld⟩ := hW H2 fun b u e n q => S2.keep b u (prot_of e n fun j z => (ho1 j b z).2 (q j (ho1 j b z).1))
    by_cases hlt : i < zs.length
    · refine .inr ⟨wgo i hlt, fun σ' H' => ∃ ρ s own, SR F' own σ' H' ρ s ∧ OutS F (forGo t b (zs.drop (i + 1)) ρ s) D, fun σ' H' w => ⟨m - 1, by omega, by omega, w⟩, fun x H3 hy => ?_⟩
      obtain ⟨z, ez, vz, x3, sx3⟩ := wyld i x H3 hlt hy
      have S3 : SR F' own2 σ2 H3 ρ2 s2 := S2.ext (F := F') x3 (sx3 _ S2.src)
      rw [List.drop_eq_getElem_cons hlt] at h2
      have ez' : zs[i] = z := by
        rw [List.getElem?_eq_getElem hlt] at ez
        exact Option.some.inj ez
      rw [ez'] at h2
      unfold forGo at h2
      cases et : t.set z ρ2 with
      | none => rw [et] at h2; exact h2.elim
      | some ρ3 =>
        rw [et] at h2
        have vz' : View F'.g F'.L H3 (Bo F' own2) z x := vz.mono (fun _ _ e _ => e) fun b u e q => ⟨q.1.1, fun j z => by
          obtain ⟨w, ew⟩ := Option.ne_none_iff_exists'.mp q.2
          have h5 := (S2.new j b z).1
          rw [show F'.H0 b = some w from prot_of ew (S1.bsrc b q.1.1) fun k y => q.1.2 k (ho1 k b y).1] at h5
          cases h5⟩
        refine gOf_set (F := F') hK t hw S3 vz' et fun σ4 S4 _ => ⟨_, ρ3, s2, own2, S4, ?_⟩
        dsimp only at h2
        match e : b ρ3 s2, h2 with
        | .ok (.nx, ρ, s), h2 => exact fun σ H own S => ⟨ρ, s, own, S, h2⟩
        | .ok (.cont, ρ, s), h2 => exact fun σ H own S => ⟨ρ, s, own, S, h2⟩
        | .ok (.brk, ρ, s), h2 => exact fun σ H own S => h2 σ H own (S.less less)
        | .ok (.ret z, ρ, s), h2 => exact fun v H ⟨σ, own, S⟩ w => h2 v H ⟨σ, own, S.less less⟩ w
        | .exc n s, h2 => exact fun H ⟨σ, own, ρ, S⟩ => h2 H ⟨σ, own, ρ, S.less less⟩
        | .err, h2 => exact h2.elim
    · have ei : i = zs.length := by omega
      subst ei
      rw [List.drop_length] at h2
      exact .inl ⟨wstop, h2 σ2 H2 own2 (S2.less less)⟩
theorem psx_while (n : Nat) (hp : PassesOwn (model X.prog X.w) X.A X.env X.xe) (hc : PTX X F c fc) (hb : PSXs X F body b) : PSX X F (.While c body [] pos) (Y.while n fc b) := by
  refine PS.imp (ps_while hp hc hb) fun D σ H ⟨ρ, s, own, S, h⟩ => ?_
  refine ⟨fun m σ H => ∃ ρ s own, SR F own σ H ρ s ∧ OutS F (whileGo fc b m ρ s) D, ⟨n, ρ, s, own, S, h⟩, ?_⟩
  rintro m σ1 H1 ⟨ρ1, s1, own1, S1, h1⟩
  cases m with
  | zero => exact h1.elim
  | succ m =>
    unfold whileGo at h1
    refine TEx.mono (TEx.stepS S1 h1) fun v H2 ⟨x, tx, s2, S2, vt, x2, h2⟩ => ?_
    split at h2
    · refine ⟨true, VT.view S1 vt, ?_⟩
      show (if true = true then _ else _)
      rw [if_pos rfl]
      refine ⟨fun σ' H' => ∃ ρ s own, SR F own σ' H' ρ s ∧ OutS F (whileGo fc b m ρ s) D, fun σ' H' w => ⟨m, Nat.lt_succ_self m, w⟩, ρ1, s2, own1, S2, ?_⟩
      match e : b ρ1 s2, h2 with
      | .ok (.nx, ρ, s), h2 => exact fun σ H own S => ⟨ρ, s, own, S, h2⟩
      | .ok (.cont, ρ, s), h2 => exact fun σ H own S => ⟨ρ, s, own, S, h2⟩
      | .ok (.brk, ρ, s), h2 => exact h2
      | .ok (.ret z, ρ, s), h2 => exact h2
      | .exc n s, h2 => exact h2
      | .err, h2 => exact h2.elim
    · refine ⟨false, VT.view S1 vt, ?_⟩
      show (if false = true then _ else _)
      rw [if_neg Bool.false_ne_true]
      exact h2 _ _ _ S2
    · exact h2.elim
end

/-! ### a, b = e1, e2 -/
/-- how a value goes into a slot beside another one: plain or as the slot's own -/
def flatC : PV → Bool
  | .lst xs => flats xs
  | .dK _ xs => flats xs
  | _ => false
def stg (x : PV) (t : Tag) : Option Bool := if flat x then some false else match t with
  | .fr => if flatC x then some true else none
  | _ => none
def pairS (ρ : EnvP) (i : Nat) (x : PV) (tx : Tag) (j : Nat) (y : PV) (ty : Tag) : Option EnvP :=
  if i ≠ j ∧ i < ρ.length ∧ j < ρ.length then (match stg x tx, stg y ty with
    | some a, some b => some ((ρ.set i (some (x, a))).set j (some (y, b)))
    | _, _ => if ((tx.clean || flat x) && (ty.clean || flat y)) = true then some ((ρ.set i (some (x, false))).set j (some (y, false))) else none) else none
def Y.asg2 (i j : Nat) (fa fb : EE) : ES := fun ρ s => bindE (fa ρ s) fun x tx s1 => bindE (fb ρ s1) fun y ty s2 => match pairS ρ i x tx j y ty with
  | some ρ1 => .ok (.nx, ρ1, s2)
  | none => .err
def tTup2 (ta tb : TE) : TE := fun σ H Q => ta σ H fun v1 H1 => tb σ H1 fun v2 H2 => ∀ p, H2 p = none → Q (.ref p) (upd H2 p (.tup [v1, v2]))
section
variable {X : Cx} {F : Fr} {a b : Expr} {fa fb : EE} {pos : Pos} {own : Nat → Option Addr} {σ : L2.St} {H H0 H1 H2 : Hp} {ρ ρ1 : EnvP} {s s0 s1 : Src}
theorem SR.stg (S0 : SR F own σ H0 ρ s0) (S : SR F own σ H ρ s) (x1 : Ext F.L H0 H) {i : Nat} {x : PV} {v : V} {t : Tag} {k : Bool} (hi : i < ρ.length) (vt : VT F own H0 H t x v) (e : stg x t = some k) : ∃ own', SR F own' (σ.set i (some v)) H (ρ.set i (some (x, k))) s := by
  unfold EV.stg at e
  split at e
  · rename_i hf
    cases e
    exact ⟨_, S.drop i x hi (View.flat (fun _ _ q _ => q) _ _ hf (VT.view S0 vt))⟩
  · split at e
    · split at e
      · cases e
        obtain ⟨p, rfl, hp, hc⟩ := vt
        refine ⟨_, SR.setFr S0 S x1 i hi hp hc ?_⟩
        cases q : F.H0 p with
        | none => rfl
        | some u => rw [S0.keep p u q] at hp; cases hp
      · cases e
    · cases e
/-- a value that is flat, or new with flat items, in another split of the frame's own -/
theorem VT.stg {own' : Nat → Option Addr} {σ' : L2.St} {ρ' : EnvP} {s' : Src} (S0 : SR F own σ H0 ρ s0) (S0' : SR F own' σ' H0 ρ' s') {x : PV} {v : V} {t : Tag} {k : Bool} (vt : VT F own H0 H t x v) (e : EV.stg x t = some k) : ∃ t', VT F own' H0 H t' x v ∧ EV.stg x t' = some k := by
  unfold EV.stg at e
  split at e
  · rename_i hf
    refine ⟨.cl, View.flat (fun _ _ q _ => q) _ _ hf (VT.view S0 vt), ?_⟩
    unfold EV.stg
    rw [if_pos hf]; exact e
  · rename_i hf
    split at e
    · split at e
      · rename_i hc
        obtain ⟨p, rfl, hp, c⟩ := vt
        refine ⟨.fr, ⟨p, rfl, hp, ?_⟩, ?_⟩
        · cases x <;> first | exact False.elim c | skip
          · obtain ⟨ys, h, l, v⟩ := c
            exact ⟨ys, h, l, Views.flat (fun _ _ q _ => q) _ _ (by simpa [flatC] using hc) v⟩
          · obtain ⟨ys, h, l, z, v⟩ := c
            exact ⟨ys, h, l, z, Views.flat (fun _ _ q _ => q) _ _ (by simpa [flatC] using hc) v⟩
        · unfold EV.stg
          rw [if_neg hf]
          dsimp only
          rw [if_pos hc]; exact e
      · cases e
    · cases e
theorem set_comm2 {α : Type} (l : List α) {i j : Nat} (h : i ≠ j) (x y : α) : (l.set i x).set j y = (l.set j y).set i x := (List.set_comm y x (Ne.symm h)).symm
theorem SR.pair (S : SR F own σ H ρ s) (S1 : SR F own σ H1 ρ s1) (x1 : Ext F.L H H1) (S2 : SR F own σ H2 ρ s0) (x2 : Ext F.L H1 H2) {H3 : Hp} (x3 : Ext F.L H2 H3) (sa3 : SrcAt F.L H3 s0) {i j : Nat} {x y : PV} {tx ty : Tag} {v1 v2 : V} (vt1 : VT F own H H1 tx x v1) (vt2 : VT F own H1 H2 ty y v2)
    (e : pairS ρ i x tx j y ty = some ρ1) : ∃ own', SR F own' ((σ.set i (some v1)).set j (some v2)) H3 ρ1 s0 := by
  unfold pairS at e
  split at e
  · rename_i hc
    obtain ⟨hij, hil, hjl⟩ := hc
    split at e
    · rename_i k1 k2 q1 q2
      cases e
      obtain ⟨own1, T1⟩ := SR.stg S S1 x1 hil vt1 q1
      have T3 := T1.ext (x2.trans x3) sa3
      obtain ⟨t2', vt2', q2'⟩ := VT.stg S1 T1 (VT.ext S1 S2 vt2 x3) q2
      exact SR.stg T1 T3 (x2.trans x3) (by rw [List.length_set]; exact hjl) vt2' q2'
    · split at e
      · rename_i hc
        cases e
        rw [Bool.and_eq_true] at hc
        have S3 := S2.ext x3 sa3
        have c1 : View F.g F.L H3 (Bo F own) x v1 := by
          have w := VT.ext S S1 vt1 (x2.trans x3)
          rcases Bool.or_eq_true_iff.mp hc.1 with hk | hk
          · exact VT.cl S w (Tag.clean_cases hk)
          · exact VT.flat S w hk
        have c2 : View F.g F.L H3 (Bo F own) y v2 := by
          have w := VT.ext S1 S2 vt2 x3
          rcases Bool.or_eq_true_iff.mp hc.2 with hk | hk
          · exact VT.cl S1 w (Tag.clean_cases hk)
          · exact VT.flat S1 w hk
        have T1 := S3.drop i x hil (c1.mono (fun _ _ q _ => q) fun _ _ _ q => q.unown)
        exact ⟨_, T1.drop j y (by rw [List.length_set]; exact hjl) (c2.mono (fun _ _ q _ => q) fun _ _ _ q => q.unown.unown)⟩
      · cases e
  · cases e
theorem psx_asg2 {i j : Nat} {x y : Str} {k1 k2 : Nat} {px py tpos epos : Pos} (hN : X.N.Nodup) (ha : PX X F a fa) (hb : PX X F b fb) (hi : X.N[i]? = some x := by rfl) (hj : X.N[j]? = some y := by rfl)
    (hg : PG X (.Tuple [.Name x px, .Name y py] k1 tpos) (gTup X.K 2 (gCons (gName i) (gCons (gName j) gNil))))
    (hK : X.K = F.g.K := by rfl) (hs : swapsWithSole [.Tuple [.Name x px, .Name y py] k1 tpos] (.Tuple [a, b] k2 epos) pos.line X.env = pure false := by rfl) (hsw : swappedStores [.Tuple [.Name x px, .Name y py] k1 tpos] (.Tuple [a, b] k2 epos) X.env = pure none := by rfl)
    (h1 : (assignEach [.Tuple [.Name x px, .Name y py] k1 tpos] X.env).map (·.2) = [assign (.Tuple [.Name x px, .Name y py] k1 tpos) X.env] := by rfl)
    (hst : starEach [a, b] X.env = (false, eval a X.env) :: starEach [b] X.env := by rfl) (hst2 : starEach [b] X.env = (false, eval b X.env) :: starEach [] X.env := by rfl) :
    PSX X F (.Assign [.Tuple [.Name x px, .Name y py] k1 tpos] (.Tuple [a, b] k2 epos) pos) (Y.asg2 i j fa fb) := by
  refine PS.imp (ps_asg (pe_tup (pa_cons ha (pa_cons hb pa_nil hst2) hst)) hg hs hsw h1) fun D σ H ⟨ρ, s, own, S, h⟩ => ?_
  unfold Y.asg2 at h
  refine TEx.mono (TEx.stepS S h) fun v1 H1 ⟨x1, t1, s1, S1, vt1, e1, h1⟩ => ?_
  refine TEx.mono (TEx.stepS S1 h1) fun v2 H2 ⟨x2, t2, s2, S2, vt2, e2, h2⟩ => ?_
  cases ep : pairS ρ i x1 t1 j x2 t2 with
  | none => rw [ep] at h2; exact h2.elim
  | some ρ1 =>
    rw [ep] at h2
    refine ⟨by show 2 ≤ sizeLine; decide, fun p hp => ?_⟩
    have x3 : Ext F.L H2 (upd H2 p (.tup [v1, v2])) := .upd hp
    have sa3 : SrcAt F.L (upd H2 p (.tup [v1, v2])) s2 := S2.src.upd (S2.src.some_ne hp)
    obtain ⟨own', T⟩ := SR.pair S S1 e1 S2 e2 x3 sa3 vt1 vt2 ep
    exact ⟨p, [v1, v2], rfl, .inl (.inl upd_same), rfl, v1, [v2], rfl, v2, [], rfl, rfl, h2 _ _ _ T⟩
/-- .. with plain local names on one line -/
theorem psx_par2 {i j : Nat} {x y : Str} {k1 k2 : Nat} {px py tpos epos : Pos} (hN : X.N.Nodup) (ha : PX X F a fa) (hb : PX X F b fb) (hi : X.N[i]? = some x := by rfl) (hj : X.N[j]? = some y := by rfl)
    (hx : X.env.scope.names.lookup x = some .local := by rfl) (hy : X.env.scope.names.lookup y = some .local := by rfl) (hij : i ≠ j := by decide) (hc : X.calm = true := by rfl)
    (hs : swapsWithSole [.Tuple [.Name x px, .Name y py] k1 tpos] (.Tuple [a, b] k2 epos) pos.line X.env = pure false := by rfl) (hsw : swappedStores [.Tuple [.Name x px, .Name y py] k1 tpos] (.Tuple [a, b] k2 epos) X.env = pure (some [x, y]) := by rfl)
    (hst : starEach [a, b] X.env = (false, eval a X.env) :: starEach [b] X.env := by rfl) (hst2 : starEach [b] X.env = (false, eval b X.env) :: starEach [] X.env := by rfl) :
    PSX X F (.Assign [.Tuple [.Name x px, .Name y py] k1 tpos] (.Tuple [a, b] k2 epos) pos) (Y.asg2 i j fa fb) := by
  refine PS.imp (ps_par hc hN hi hj hij hx hy (pa_cons ha (pa_cons hb pa_nil hst2) hst) hsw hs) fun D σ H ⟨ρ, s, own, S, h⟩ => ?_
  unfold Y.asg2 at h
  refine TEx.mono (TEx.stepS S h) fun v1 H1 ⟨x1, t1, s1, S1, vt1, e1, h1⟩ => ?_
  refine TEx.mono (TEx.stepS S1 h1) fun v2 H2 ⟨x2, t2, s2, S2, vt2, e2, h2⟩ => ?_
  cases ep : pairS ρ i x1 t1 j x2 t2 with
  | none => rw [ep] at h2; exact h2.elim
  | some ρ1 =>
    rw [ep] at h2
    obtain ⟨own', T⟩ := SR.pair S S1 e1 S2 e2 (.refl _) S2.src vt1 vt2 ep
    exact ⟨v1, v2, rfl, h2 _ _ _ T⟩
end

/-! ### name = [..] on one line -/
section
variable {X : Cx} {F : Fr}
theorem psx_setLc {i : Nat} {y : Str} {py : Pos} {elt tg iter : Expr} {ifs : List Expr} {scope : Scope} {ownN : List (Str × Nat)} {pos spos : Pos} {it : EI} {c : Option EE} {f : EE} (t : Tg) (hN : X.N.Nodup) (hi : PIX X F tg iter it) (ok : BlkOk X.N X.env.scope scope ownN)
    (hg : ∀ (s : Shared) (H : Hp) (C : Addr) (cl : List (Str × Addr)) (fp : List Addr), PG (X.blk s H scope (compEnvC scope cl C X.env) fp) tg (gOf X.K t))
    (ht : ∀ (s : Shared) (H : Hp) (C : Addr) (cl : List (Str × Addr)) (fp : List Addr) L H0 B, optT (X.blk s H scope (compEnvC scope cl C X.env) fp) ⟨F.g, L, H0, B, fun _ _ => False⟩ ifs c)
    (he : ∀ (s : Shared) (H : Hp) (C : Addr) (cl : List (Str × Addr)) (fp : List Addr) L H0 B, PX (X.blk s H scope (compEnvC scope cl C X.env) fp) ⟨F.g, L, H0, B, fun _ _ => False⟩ elt f)
    (hy : X.N[i]? = some y := by rfl) (hyl : X.env.scope.names.lookup y = some .local := by rfl) (hsw : swapsWith (.ListComp elt [⟨tg, iter, ifs, 0⟩] scope pos) (some (.Name y py)) spos.line X.env = pure true := by rfl)
    (hw : t.within (ownN.map (·.2)) = true := by rfl) (hK : X.K = F.g.K := by rfl) (hc : X.calm = true := by rfl) (hs : ∀ x, foldedSetIterable iter X.env x = pure x := by intro _; rfl) :
    PSX X F (.Assign [.Name y py] (.ListComp elt [⟨tg, iter, ifs, 0⟩] scope pos) spos) (Y.asg i (E.comp it t c f (ownN.map (·.2)))) := by
  refine PS.imp (ps_setLc (te := teC F.g f) (tt := ttC F.g c) hc hN hy hyl hsw hi ok hg (fun s H C cl fp => pts_of (ht s H C cl fp)) (fun s0 H0 C cl fp => ⟨fun pins s σ H Q I ⟨F', ⟨L, H0, B, e⟩, q⟩ => by subst e; exact PE.run (he s0 _ C cl fp L H0 B) pins s σ H Q I q⟩) hs) fun D σ H ⟨ρ, s, own, S, h⟩ => ?_
  unfold Y.asg at h
  refine comp_step hK hw (TEx.mono (TEx.stepS S h) fun v H1 ⟨x, tx, s1, S1, vt, x1, h1⟩ => ?_)
  cases e : setv ρ i x tx with
  | none => rw [e] at h1; exact h1.elim
  | some ρ1 =>
    rw [e] at h1
    obtain ⟨own', T⟩ := SR.setv S S1 x1 vt e
    exact h1 _ _ _ T
end

/-! ### dict displays -/
def E.dnew : EE := fun _ s => .ok (.dK [] [], .fr, s)
/-- {k: v} -/
def E.dict1 (fk fv : EE) : EE := fun ρ s => (fk ρ s).bind fun p => (fv ρ p.2.2).bind fun q => match keyOf p.1 with
  | some k => if (q.2.1.clean || flat q.1) = true then .ok (.dK [k] [q.1], .fr, q.2.2) else .err
  | none => .err
section
variable {X : Cx} {F : Fr} {a b : Expr} {fa fb : EE} {pos : Pos}
theorem px_dnew : PX X F (.Dict [] [] pos) E.dnew := PE.imp pe_dnewK fun σ H Q ⟨ρ, s, own, S, h⟩ => fun p hp =>
  h _ _ (.upd hp) (S.src.upd (S.src.some_ne hp)) ⟨p, rfl, hp, [], upd_same, rfl, Nat.zero_le _, rfl⟩
end
end EV
set_option Elab.async false
set_option linter.all false
set_option maxRecDepth 100000
/-! The pure reading of a whole def. -/
namespace EV
open PySem PySem.Spec L2

/-! ### {k: v} -/
section
variable {F : Fr} {own : Nat → Option Addr} {σ : L2.St} {H H0 H1 H2 : Hp} {ρ ρ1 : EnvP} {s s1 : Src} {D : Addr}
/-- beside a new thing that is no part of the state -/
theorem SR.beside (S : SR F own σ H ρ s) (hD : H D = none) (o : HO) : SR ⟨F.g, F.L, fun _ => none, fun a => F.B a ∧ a ≠ D, F.Xn⟩ own σ (upd H D o) ρ s := by
  have keep : ∀ b u, H b = some u → upd H D o b = some u := fun b u e => by rw [upd_ne (ne_of_none e hD)]; exact e
  have bo : ∀ b u, H b = some u → Bo F own b → Bo ⟨F.g, F.L, fun _ => none, fun a => F.B a ∧ a ≠ D, F.Xn⟩ own b := fun b u e q => ⟨⟨q.1, ne_of_none e hD⟩, q.2⟩
  refine ⟨fun b u e => (by cases e), S.src.upd (S.src.some_ne hD), fun b u e => (by cases e), fun a q => S.bsrc a q.1, fun i a e => ⟨rfl, (S.new i a e).2, fun q => S.notOwn hD i (q ▸ e)⟩, S.inj, fun a n => ?_, S.len, fun i pv h => ?_, fun i pv h => ?_, S.owned⟩
  · have ha : a ≠ D := fun q => by rw [q, upd_same] at n; cases n
    rw [upd_ne ha] at n
    exact ⟨S.fresh a n, ha⟩
  · obtain ⟨a, e1, e2, c⟩ := S.flag i pv h
    exact ⟨a, e1, e2, c.mono (fun b u e _ => keep b u e) (fun b u e q => bo b u e q) fun u e => keep a u e⟩
  · obtain ⟨v, e2, c⟩ := S.plain i pv h
    exact ⟨v, e2, c.mono (fun b u e _ => keep b u e) (fun b u e q => bo b u e q)⟩
end
def teB (F : Fr) (f : EE) : TE := fun σ H Q => ∃ H0 B, TEx ⟨F.g, F.L, H0, B, F.Xn⟩ f σ H Q
theorem px_dict1 {X : Cx} {F : Fr} {a b : Expr} {fa fb : EE} {pos : Pos} (hk : ∀ H0 B, PX X ⟨F.g, F.L, H0, B, F.Xn⟩ a fa) (hv : ∀ H0 B, PX X ⟨F.g, F.L, H0, B, F.Xn⟩ b fb) : PX X F (.Dict [some a] [b] pos) (E.dict1 fa fb) := by
  have pk : PE X a (teB F fa) := ⟨fun pins s σ H Q I ⟨H0, B, q⟩ => (hk H0 B).run pins s σ H Q I q⟩
  have pv : PE X b (teB F fb) := ⟨fun pins s σ H Q I ⟨H0, B, q⟩ => (hv H0 B).run pins s σ H Q I q⟩
  refine PE.imp (pe_disp (pps_cons pk pv pps_nil) rfl rfl (by simp) (by show 1 ≤ 15; omega)) fun σ H Q ⟨ρ, s, own, S, h⟩ p hp => ?_
  let F' : Fr := ⟨F.g, F.L, fun _ => none, fun a => F.B a ∧ a ≠ p, F.Xn⟩
  have S' : SR F' own σ (upd H p (.dK [])) ρ s := S.beside hp _
  have xp : Ext F.L H (upd H p (.dK [])) := .upd hp
  have psrc : notSrc F.L p := S.src.some_ne hp
  unfold E.dict1 at h
  refine ⟨fun _ => none, fun a => F.B a ∧ a ≠ p, ρ, s, own, S', ?_⟩
  cases e1 : fa ρ s with
  | exc n s' => rw [e1] at h; exact fun H' x sa => h H' (xp.trans x) sa
  | err => rw [e1] at h; exact h
  | ok q =>
    obtain ⟨k, tk, s1⟩ := q
    rw [e1] at h
    intro H1 v1 x1 sa1 vt1
    have S1 : SR F' own σ H1 ρ s1 := S'.ext x1 sa1
    refine ⟨fun _ => none, fun a => F.B a ∧ a ≠ p, ρ, s1, own, S1, ?_⟩
    simp only [Res.bind] at h
    cases e2 : fb ρ s1 with
    | exc n s' => rw [e2] at h; exact fun H' x sa => h H' (xp.trans (x1.trans x)) sa
    | err => rw [e2] at h; exact h
    | ok q =>
      obtain ⟨y, ty, s2⟩ := q
      rw [e2] at h
      intro H2 v2 x2 sa2 vt2
      dsimp only at h
      split at h
      · rename_i k' hk'
        split at h
        · rename_i hc
          have S2 : SR F' own σ H2 ρ s2 := S1.ext x2 sa2
          have hp2 : H2 p = some (.dK []) := x2 p _ (x1 p _ upd_same psrc) psrc
          have ek := keyOf_view (VT.view S' vt1) hk'
          subst ek
          refine ⟨hp2, [(k', v2)], rfl, by show 1 ≤ 15; omega, ?_⟩
          have vy : View F.g F.L H2 (Bo F' own) y v2 := by
            rcases Bool.or_eq_true_iff.mp hc with hk | hk
            · exact VT.cl S1 vt2 (Tag.clean_cases hk)
            · exact VT.flat S1 vt2 hk
          have xe : Ext F.L H (upd H2 p (.dK [(k', v2)])) := fun b u e n => by
            rw [upd_ne (ne_of_none e hp)]
            exact x2 b u (x1 b u (xp b u e n) n) n
          refine h _ (.ref p) xe (sa2.upd psrc) ⟨p, rfl, hp, [v2], upd_same, rfl, by show 1 ≤ sizeLine; decide, ?_⟩
          refine Views.one (vy.mono (fun b u e q => ?_) fun b u e q => ⟨⟨q.1.1, q.2⟩, q.1.2⟩)
          rw [upd_ne fun z => ?_]
          · exact e
          · subst z
            rcases q with q | q
            · exact q.1.2 rfl
            · rw [hp2] at e; cases e; exact q
        · exact h.elim
      · exact h.elim

/-! ### calls -/
/-- what a def's body may lean on -/
structure Bd (X : Cx) (F : Fr) (k : Nat) : Prop where
  room : Room k X.A
  pass : Passes (L2.CX X.prog X.w) X (EX F)
  own : PassesOwn (model X.prog X.w) X.A X.env X.xe
  takes : Takes X fun cls d _ H => EX F cls d H
theorem pass_no {X : Cx} {g : Gm} {L : Option (Addr × Addr)} {H0 : Hp} {B : Addr → Prop} : Passes (L2.CX X.prog X.w) X (EX ⟨g, L, H0, B, fun _ _ => False⟩) := fun _ _ _ _ _ _ _ h => by
  obtain ⟨_, _, _, _, _, _, _, _, _, _, _, _, z⟩ := h
  obtain ⟨_, _, z⟩ := z
  exact z.elim
theorem Df.mono {P : Program} {w : World} {K : PySem.W.Frag} {mg : Str → Option Value} {base : Heap} {g : Gm} {n m : Nat} {x : Str} {ps : List Str} {fn : Fun1} (D : Df P w K mg base g n x ps fn) (h : n ≤ m) : Df P w K mg base g m x ps fn := by
  obtain ⟨f, fd, h1, h2, h3, h4⟩ := D.ex
  exact ⟨f, fd, h1, h2, h3, h4.mono h⟩

/-! ### a def -/
def startP (N : Nat) (vs : List PV) : EnvP := vs.map (fun v => some (v, false)) ++ List.replicate (N - vs.length) none
def runF (np N : Nat) (b : ES) : Fun1 := fun vs s => if vs.length = np then (match b (startP N vs) s with
  | .ok (.ret z, _, s') => .ok (z, s')
  | .ok (.nx, _, s') => .ok (.non, s')
  | .exc n s' => .exc n s'
  | _ => .err) else .err
section
variable {P : Program} {w : World} {K : PySem.W.Frag} {mg : Str → Option Value} {base : Heap} {g : Gm}
theorem views_start {L : Option (Addr × Addr)} {H : Hp} {B : Addr → Prop} : ∀ {pvs : List PV} {vs : List V} {i : Nat} {pv : PV}, Views g L H B pvs vs → (pvs.map fun v => some (v, false))[i]? = some (some (pv, false)) → ∃ v, (vs.map some)[i]? = some (some v) ∧ View g L H B pv v := by
  intro pvs vs i pv h e
  rw [List.getElem?_map] at e
  obtain ⟨p, e1, e2⟩ := Option.map_eq_some_iff.mp e
  cases e2
  obtain ⟨v, e3, hv⟩ := h.get e1
  exact ⟨v, by rw [List.getElem?_map, e3]; rfl, hv⟩
open Classical in
noncomputable def keepOf (L : Option (Addr × Addr)) (H : Hp) : Hp := fun b => if notSrc L b then H b else none
theorem keepOf_some {L : Option (Addr × Addr)} {H : Hp} {b : Addr} {u : HO} (h : keepOf L H b = some u) : H b = some u ∧ notSrc L b := by
  unfold keepOf at h
  split at h
  · exact ⟨h, by assumption⟩
  · cases h
theorem keepOf_of {L : Option (Addr × Addr)} {H : Hp} {b : Addr} {u : HO} (h : H b = some u) (n : notSrc L b) : keepOf L H b = some u := by
  unfold keepOf
  rw [if_pos n]; exact h
/-- the frame at a def's beginning -/
noncomputable def frOf (g : Gm) (L : Option (Addr × Addr)) (H : Hp) (A : Addr → Prop) (E : XK) : Fr := ⟨g, L, keepOf L H, fun a => A a ∨ H a = none, fun n H' => ∀ cls d, g.exc n cls → E cls d H'⟩
theorem sr_start {L : Option (Addr × Addr)} {H : Hp} {A : Addr → Prop} {E : XK} {s : Src} {pvs : List PV} {vs : List V} {N : List Str} (hv : Views g L H A pvs vs) (hs : SrcAt L H s) (ha : ∀ a, A a → notSrc L a) : SR (frOf g L H A E) (fun _ => none) (L2.start N vs) H (startP N.length pvs) s where
  keep := fun b u e => (keepOf_some e).1
  src := hs
  h0s := fun b u e => (keepOf_some e).2
  bsrc := fun a q => by
    rcases q with q | q
    · exact ha a q
    · exact hs.some_ne q
  new := fun i a e => nomatch e
  inj := fun i j a e => nomatch e
  fresh := fun a n => .inr n
  len := by
    unfold L2.start startP
    rw [List.length_append, List.length_append, List.length_map, List.length_map, List.length_replicate, List.length_replicate, hv.length]
  flag := fun i pv h => by
    unfold startP at h
    by_cases hi : i < (pvs.map fun v => (some (v, false) : Slot)).length
    · rw [List.getElem?_append_left hi, List.getElem?_map] at h
      obtain ⟨p, _, e2⟩ := Option.map_eq_some_iff.mp h
      cases e2
    · rw [List.getElem?_append_right (by omega), List.getElem?_replicate] at h
      split at h <;> cases h
  plain := fun i pv h => by
    unfold startP at h
    by_cases hi : i < (pvs.map fun v => (some (v, false) : Slot)).length
    · rw [List.getElem?_append_left hi] at h
      obtain ⟨v, e, q⟩ := views_start hv h
      refine ⟨v, ?_, q.mono (fun _ _ q _ => q) fun b u e q => ⟨.inl q, fun j z => nomatch z⟩⟩
      unfold L2.start
      rw [List.getElem?_append_left (by rw [List.length_map] at hi ⊢; rw [← hv.length]; exact hi)]
      exact e
    · rw [List.getElem?_append_right (by omega), List.getElem?_replicate] at h
      split at h <;> cases h
  owned := fun i a e => nomatch e
theorem xe_mono {X : Cx} {W W' : WX} {u : Value} {s' : Shared} (x : XE X W u s') (i : ∀ cls d σ H, W cls d σ H → W' cls d σ H) : XE X W' u s' := by
  obtain ⟨a, B, sI, pins, σ, H, cls, d, rfl, I, nb, up, sky, na, os, ag, w⟩ := x
  exact ⟨a, B, sI, pins, σ, H, cls, d, rfl, I, nb, up, sky, na, os, ag, i _ _ _ _ w⟩
/-- THE RULE for a def -/
theorem df_of {x qual : Str} {st : Stmt} {f : Addr} {fd : FuncData} {N ps : List Str} {k : Nat} {b : ES} (Fn : Fun K x qual st f fd) (S : FnScope N ps (defScope st)) (hm : mg x = some (.ref f)) (hb : Binds K fd ps [])
    (body : ∀ (cdv : Value) (A : Around) (outer : List Env) (s : Shared) (H : Hp) (E : XK) (L : Option (Addr × Addr)) (H0 : Hp) (B : Addr → Prop) (Xn : Nat → Hp → Prop), Bd (cxOf (L2.CX P w) P w K mg base N qual (defScope st) f cdv A outer s H E) ⟨g, L, H0, B, Xn⟩ k →
      PSXs (cxOf (L2.CX P w) P w K mg base N qual (defScope st) f cdv A outer s H E) ⟨g, L, H0, B, Xn⟩ (defBody st) b) : Df P w K mg base g (k + 1) x ps (runF ps.length N.length b) := by
  refine ⟨f, fd, hm, Fn.kp, hb, Fun.okX Fn S (fun vs H Q E h => ?_) fun cdv A outer s H vs Q E hr h => ?_⟩
  · obtain ⟨L, pvs, s, A, hv, _, _, h⟩ := h
    rw [← hv.length]
    unfold runF at h
    by_cases hl : pvs.length = ps.length
    · exact hl
    · rw [if_neg hl] at h
      exact h.elim
  · obtain ⟨L, pvs, s0, A0, hv, hs, ha, h⟩ := h
    unfold runF at h
    by_cases hl : pvs.length = ps.length
    · rw [if_pos hl] at h
      have tk : Takes (cxOf (L2.CX P w) P w K mg base N qual (defScope st) f cdv A outer s H E) (fun cls d _ H' => E cls d H') := takes_of rfl rfl rfl rfl
      have ex : ∀ cls d H', EX (frOf g L H A0 E) cls d H' → E cls d H' := fun cls d H' ⟨n, h1, h2⟩ => h2 cls d h1
      refine ⟨_, body cdv A outer s H E L _ _ _ ⟨hr, passes_call tk fun cls d σ H' q => ex cls d H' q, passes_of rfl, fun u s' x => tk u s' (xe_mono x fun cls d σ H' q => ex cls d H' q)⟩, ?_⟩
      refine ⟨startP N.length pvs, s0, fun _ => none, sr_start hv hs ha, ?_⟩
      have ext : ∀ {own : Nat → Option Addr} {σ : L2.St} {H' : Hp} {ρ : EnvP} {s' : Src}, SR (frOf g L H A0 E) own σ H' ρ s' → Ext L H H' := fun S b u e n => S.keep b u (keepOf_of e n)
      match e : b (startP N.length pvs) s0, h with
      | .ok (.nx, ρ, s'), h => exact fun σ H' own S => h H' .non (ext S) S.src rfl
      | .ok (.ret z, ρ, s'), h => exact fun v H' ⟨σ, own, S⟩ hv => h H' v (ext S) S.src hv
      | .ok (.brk, ρ, s'), h => exact h.elim
      | .ok (.cont, ρ, s'), h => exact h.elim
      | .exc n s', h => exact fun H' ⟨σ, own, ρ, S⟩ cls d hx => h H' cls d (ext S) S.src hx
      | .err, h => exact h.elim
    · rw [if_neg hl] at h
      exact h.elim
/-- with no calls left -/
theorem df_zero {x : Str} {st : Stmt} {f : Addr} {fd : FuncData} {ps : List Str} {qual : Str} (Fn : Fun K x qual st f fd) (hm : mg x = some (.ref f)) (hb : Binds K fd ps []) : Df P w K mg base g 0 x ps fun _ _ => .err := by
  refine ⟨f, fd, hm, Fn.kp, hb, ⟨fun vs H Q E h => ?_, fun A outer s H args us vs Q E _ _ _ _ h => ?_⟩⟩ <;>
  · obtain ⟨L, pvs, s, A, hv, _, _, h⟩ := h
    exact h.elim
end
end EV
set_option Elab.async false
set_option linter.all false
set_option maxRecDepth 100000
/-! Short words for built-ins and targets. -/
namespace EV
open PySem PySem.Spec L2

theorem bt_len : bootBuiltins "len" = some (.builtin "len") := by decide +kernel
theorem bt_sum : bootBuiltins "sum" = some (.builtin "sum") := by decide +kernel
theorem bt_all : bootBuiltins "all" = some (.builtin "all") := by decide +kernel
theorem bt_any : bootBuiltins "any" = some (.builtin "any") := by decide +kernel
theorem bt_abs : bootBuiltins "abs" = some (.builtin "abs") := by decide +kernel
theorem bt_max : bootBuiltins "max" = some (.builtin "max") := by decide +kernel
theorem bt_min : bootBuiltins "min" = some (.builtin "min") := by decide +kernel
theorem bt_sorted : bootBuiltins "sorted" = some (.builtin "sorted") := by decide +kernel
theorem bt_int : bootBuiltins "int" = some (.type "int") := by decide +kernel
theorem bt_str : bootBuiltins "str" = some (.type "str") := by decide +kernel
theorem bt_bool : bootBuiltins "bool" = some (.type "bool") := by decide +kernel
theorem bt_tuple : bootBuiltins "tuple" = some (.type "tuple") := by decide +kernel
theorem bt_list : bootBuiltins "list" = some (.type "list") := by decide +kernel
theorem bt_dict : bootBuiltins "dict" = some (.type "dict") := by decide +kernel
theorem bt_set : bootBuiltins "set" = some (.type "set") := by decide +kernel
section
variable {X : Cx} {F : Fr} {e : Expr} {es : List Expr} {fs : EEs} {p pos : Pos} {f : EE}
theorem px_len (hm : X.mg "len" = none) (ha : PXs X F (e :: es) fs) (hg : Gl X "len" := by rfl) (hK : F.g.K = X.K := by rfl) (he : starEach (e :: es) X.env = (false, eval e X.env) :: starEach es X.env := by rfl) (hpl : (backTo pos (starEach es X.env)).any (·.1) = false := by rfl) :
    PX X F (.Call (.Name "len" p) (e :: es) [] pos) (E.callB lenF fs) := px_callB (call_lenP (X := X)) (hK ▸ sem_len) hm bt_len ha hg (by decide) (by decide) he hpl
theorem px_sum (hm : X.mg "sum" = none) (ha : PXs X F (e :: es) fs) (hc : X.calm = true := by rfl) (hg : Gl X "sum" := by rfl) (hK : F.g.K = X.K := by rfl) (he : starEach (e :: es) X.env = (false, eval e X.env) :: starEach es X.env := by rfl) (hpl : (backTo pos (starEach es X.env)).any (·.1) = false := by rfl) :
    PX X F (.Call (.Name "sum" p) (e :: es) [] pos) (E.callB sumF fs) := px_callB (cr_sum hc) (hK ▸ sem_sum) hm bt_sum ha hg (by decide) (by decide) he hpl
theorem px_all (hm : X.mg "all" = none) (ha : PXs X F (e :: es) fs) (hc : X.calm = true := by rfl) (hg : Gl X "all" := by rfl) (hK : F.g.K = X.K := by rfl) (he : starEach (e :: es) X.env = (false, eval e X.env) :: starEach es X.env := by rfl) (hpl : (backTo pos (starEach es X.env)).any (·.1) = false := by rfl) :
    PX X F (.Call (.Name "all" p) (e :: es) [] pos) (E.callB allF fs) := px_callB (cr_all hc) (hK ▸ sem_all) hm bt_all ha hg (by decide) (by decide) he hpl
theorem px_any (hm : X.mg "any" = none) (ha : PXs X F (e :: es) fs) (hc : X.calm = true := by rfl) (hg : Gl X "any" := by rfl) (hK : F.g.K = X.K := by rfl) (he : starEach (e :: es) X.env = (false, eval e X.env) :: starEach es X.env := by rfl) (hpl : (backTo pos (starEach es X.env)).any (·.1) = false := by rfl) :
    PX X F (.Call (.Name "any" p) (e :: es) [] pos) (E.callB anyF fs) := px_callB (cr_any hc) (hK ▸ sem_any) hm bt_any ha hg (by decide) (by decide) he hpl
theorem px_abs (hm : X.mg "abs" = none) (ha : PXs X F (e :: es) fs) (hg : Gl X "abs" := by rfl) (he : starEach (e :: es) X.env = (false, eval e X.env) :: starEach es X.env := by rfl) (hpl : (backTo pos (starEach es X.env)).any (·.1) = false := by rfl) :
    PX X F (.Call (.Name "abs" p) (e :: es) [] pos) (E.callB absF fs) := px_callB call_abs sem_abs hm bt_abs ha hg (by decide) (by decide) he hpl
theorem px_max (hm : X.mg "max" = none) (ha : PXs X F (e :: es) fs) (hc : X.calm = true := by rfl) (hg : Gl X "max" := by rfl) (he : starEach (e :: es) X.env = (false, eval e X.env) :: starEach es X.env := by rfl) (hpl : (backTo pos (starEach es X.env)).any (·.1) = false := by rfl) :
    PX X F (.Call (.Name "max" p) (e :: es) [] pos) (E.callB max2F fs) := px_callB (call_max2 hc) sem_max2 hm bt_max ha hg (by decide) (by decide) he hpl
theorem px_min (hm : X.mg "min" = none) (ha : PXs X F (e :: es) fs) (hc : X.calm = true := by rfl) (hg : Gl X "min" := by rfl) (he : starEach (e :: es) X.env = (false, eval e X.env) :: starEach es X.env := by rfl) (hpl : (backTo pos (starEach es X.env)).any (·.1) = false := by rfl) :
    PX X F (.Call (.Name "min" p) (e :: es) [] pos) (E.callB min2F fs) := px_callB (call_min2 hc) sem_min2 hm bt_min ha hg (by decide) (by decide) he hpl
theorem px_sorted (hm : X.mg "sorted" = none) (ha : PXs X F (e :: es) fs) (hc : X.calm = true := by rfl) (hg : Gl X "sorted" := by rfl) (hK : F.g.K = X.K := by rfl) (he : starEach (e :: es) X.env = (false, eval e X.env) :: starEach es X.env := by rfl) (hpl : (backTo pos (starEach es X.env)).any (·.1) = false := by rfl) :
    PX X F (.Call (.Name "sorted" p) (e :: es) [] pos) (E.callB sortedF fs) := px_callB (call_sortedP (X := X) hc) (hK ▸ sem_sorted) hm bt_sorted ha hg (by decide) (by decide) he hpl
theorem px_intT (hm : X.mg "int" = none) (ha : PXs X F (e :: es) fs) (hg : Gl X "int" := by rfl) (he : starEach (e :: es) X.env = (false, eval e X.env) :: starEach es X.env := by rfl) (hpl : (backTo pos (starEach es X.env)).any (·.1) = false := by rfl) :
    PX X F (.Call (.Name "int" p) (e :: es) [] pos) (E.callB intF fs) := px_callTy call_int1 sem_int hm bt_int ha hg (by decide) (by decide) he hpl
theorem px_tupleT (hm : X.mg "tuple" = none) (ha : PXs X F (e :: es) fs) (hg : Gl X "tuple" := by rfl) (hK : F.g.K = X.K := by rfl) (he : starEach (e :: es) X.env = (false, eval e X.env) :: starEach es X.env := by rfl) (hpl : (backTo pos (starEach es X.env)).any (·.1) = false := by rfl) :
    PX X F (.Call (.Name "tuple" p) (e :: es) [] pos) (E.callB tupleF fs) := px_callTy (r := rTupleP X.K) call_tuple_of (hK ▸ sem_tuple) hm bt_tuple ha hg (by decide) (by decide) he hpl
theorem px_listT (hm : X.mg "list" = none) (ha : PXs X F (e :: es) fs) (hg : Gl X "list" := by rfl) (hK : F.g.K = X.K := by rfl) (he : starEach (e :: es) X.env = (false, eval e X.env) :: starEach es X.env := by rfl) (hpl : (backTo pos (starEach es X.env)).any (·.1) = false := by rfl) :
    PX X F (.Call (.Name "list" p) (e :: es) [] pos) (E.callB listF fs) := px_callTy (r := rListP X.K) call_list_of (hK ▸ sem_list) hm bt_list ha hg (by decide) (by decide) he hpl
def E.neg (f : EE) : EE := fun ρ s => (f ρ s).bind fun p => match p.1 with
  | .int i => .ok (.int (-i), .cl, p.2.2)
  | _ => .err
theorem px_neg (h : PX X F e f) : PX X F (.UnaryOp .USub e pos) (E.neg f) := by
  refine PE.imp (pe_un un_neg h) fun σ H Q ⟨ρ, s, own, S, h⟩ => ?_
  unfold E.neg at h
  refine TEx.mono (TEx.step S h) fun v H1 ⟨x, tx, s1, e1, S1, vt1, x1, h1⟩ => ?_
  dsimp only at h1
  split at h1
  · cases (show v = .int _ from VT.view S vt1)
    exact ⟨_, rfl, h1 H1 _ (.refl _) S1.src rfl⟩
  · exact h1.elim
/-! ### targets -/
theorem pg_nm (i : Nat) {x : Str} (hN : X.N.Nodup) (hi : X.N[i]? = some x := by rfl) (hx : Loc X.env.scope x := by first | exact Or.inl rfl | exact Or.inr rfl) (hf : X.fn x = true ∨ X.env.scope.names.lookup x = some .local := by first | exact .inl rfl | exact .inr rfl) :
    PG X (.Name x pos) (gOf X.K (.nm i)) := pg_name hN hi hx hf
theorem pg_tp {k n : Nat} {ts : List Tg} (h : PGs X es (gOfs X.K ts)) (hn' : ts.length = n := by rfl) (hc : X.calm = true := by rfl) (hn : (assignEach es X.env).length = n := by rfl) (hst : (assignEach es X.env).findIdx? (·.1) = none := by rfl) : PG X (.Tuple es k pos) (gOf X.K (.tp ts)) := by
  subst hn'
  exact pg_tup hc h hn hst
theorem pgs_n : PGs X [] (gOfs X.K []) := pgs_nil
theorem pgs_c {t : Tg} {ts : List Tg} (h1 : PG X e (gOf X.K t)) (h2 : PGs X es (gOfs X.K ts)) (hs : (assignEach (e :: es) X.env).map (·.2) = assign e X.env :: (assignEach es X.env).map (·.2) := by rfl) : PGs X (e :: es) (gOfs X.K (t :: ts)) := pgs_cons h1 h2 hs
end
end EV
set_option Elab.async false
set_option linter.all false
set_option maxRecDepth 100000
/-! The law's source of numbers: what its two helpers say. -/
namespace EV
open PySem PySem.Spec L2

/-- left < 2 and cells: the next cell -/
def drain : Nat → List Int → Int → List Int × Int
  | 0, cs, l => (cs, l)
  | n + 1, cs, l => if l < 2 then (match cs[cs.length - 1]? with
    | some x => drain n cs.dropLast x
    | none => (cs, l)) else (cs, l)
def pickP (m : Int) (s : Src) : Int × Src :=
  let d := drain s.cells.length s.cells s.left
  if d.2 > 1 then (d.2 % m, { s with cells := d.1, left := d.2 / m })
  else
    let t := s.turn + 1
    let a := (s.mixed + t * 104729) % 998244353
    let b := (a * a + t * 17) % 2147483647
    ((b / 16) % m, ⟨d.1, d.2, s.mixed, t⟩)
def pickF : Fun1 := fun vs s => match vs with
  | [.src, .int m] => if m < 2 then .ok (.int 0, s) else if m < 1000000 then .ok (.int (pickP m s).1, (pickP m s).2) else .err
  | _ => .err
/-- the heap with the source as s -/
def srcH (a c : Addr) (H : Hp) (s : Src) : Hp := fun b => if b = a then some (.dK [(.inr sCells, .ref c), (.inr sLeft, .int s.left), (.inr sMixed, .int s.mixed), (.inr sTurn, .int s.turn)]) else if b = c then some (.lst (s.cells.map V.int)) else H b
section
variable {a c : Addr} {H : Hp} {s s' : Src}
theorem srcH_a : srcH a c H s a = some (.dK [(.inr sCells, .ref c), (.inr sLeft, .int s.left), (.inr sMixed, .int s.mixed), (.inr sTurn, .int s.turn)]) := if_pos rfl
theorem srcH_c (h : a ≠ c) : srcH a c H s c = some (.lst (s.cells.map V.int)) := by
  unfold srcH
  rw [if_neg (Ne.symm h), if_pos rfl]
theorem srcH_self (h : SrcAt (some (a, c)) H s) : H = srcH a c H s := by
  obtain ⟨h0, h1, h2⟩ := h
  funext b
  unfold srcH
  split
  · rename_i e; rw [e, h1]
  · split
    · rename_i e; rw [e, h2]
    · rfl
theorem srcH_ext : Ext (some (a, c)) H (srcH a c H s) := fun b u e n => by
  obtain ⟨n1, n2⟩ := n _ rfl
  unfold srcH
  rw [if_neg n1, if_neg n2]; exact e
theorem srcH_at (h : a ≠ c) : SrcAt (some (a, c)) (srcH a c H s) s := ⟨h, srcH_a, srcH_c h⟩
theorem srcH_updA {l m t : Int} : upd (srcH a c H s) a (.dK [(.inr sCells, .ref c), (.inr sLeft, .int l), (.inr sMixed, .int m), (.inr sTurn, .int t)]) = srcH a c H ⟨s.cells, l, m, t⟩ := by
  funext b
  unfold upd srcH
  split
  · rfl
  · rfl
theorem srcH_updC {cs : List Int} (h : a ≠ c) : upd (srcH a c H s) c (.lst (cs.map V.int)) = srcH a c H { s with cells := cs } := by
  funext b
  unfold upd srcH
  split
  · rename_i e
    rw [if_neg (fun q => h (q.symm.trans e))]
  · rfl
theorem get_cells : DGet (srcH a c H s) a (.str sCells) (some (.ref c)) := DGet.k (k := .inr sCells) srcH_a
theorem get_left : DGet (srcH a c H s) a (.str sLeft) (some (.int s.left)) := DGet.k (k := .inr sLeft) srcH_a
theorem get_mixed : DGet (srcH a c H s) a (.str sMixed) (some (.int s.mixed)) := DGet.k (k := .inr sMixed) srcH_a
theorem get_turn : DGet (srcH a c H s) a (.str sTurn) (some (.int s.turn)) := DGet.k (k := .inr sTurn) srcH_a
theorem put_left {l : Int} : DPut (srcH a c H s) a (.str sLeft) (.int l) (srcH a c H { s with left := l }) := by
  have h := DPut.k (k := .inr sLeft) (v := .int l) (srcH_a (a := a) (c := c) (H := H) (s := s)) (by show 4 < sizeLine; decide)
  rw [show putK _ _ _ = [(.inr sCells, .ref c), (.inr sLeft, .int l), (.inr sMixed, .int s.mixed), (.inr sTurn, .int s.turn)] from rfl, srcH_updA] at h
  exact h
theorem put_turn {l : Int} : DPut (srcH a c H s) a (.str sTurn) (.int l) (srcH a c H { s with turn := l }) := by
  have h := DPut.k (k := .inr sTurn) (v := .int l) (srcH_a (a := a) (c := c) (H := H) (s := s)) (by show 4 < sizeLine; decide)
  rw [show putK _ _ _ = [(.inr sCells, .ref c), (.inr sLeft, .int s.left), (.inr sMixed, .int s.mixed), (.inr sTurn, .int l)] from rfl, srcH_updA] at h
  exact h
theorem drain_stop {l : Int} (h : ¬ l < 2) : ∀ (n : Nat) (cs : List Int), drain n cs l = (cs, l)
  | 0, _ => rfl
  | n + 1, cs => by unfold drain; rw [if_neg h]
theorem drain_go {l x : Int} {cs : List Int} (h : l < 2) (e : cs[cs.length - 1]? = some x) (hl : 0 < cs.length) : drain cs.length cs l = drain cs.dropLast.length cs.dropLast x := by
  obtain ⟨n, hn⟩ : ∃ n, cs.length = n + 1 := ⟨cs.length - 1, by omega⟩
  rw [List.length_dropLast, hn, Nat.add_sub_cancel]
  conv => lhs; unfold drain
  rw [if_pos h, e]
theorem pickP_more {m l : Int} {s : Src} {cs : List Int} (e : drain s.cells.length s.cells s.left = (cs, l)) (h : l > 1) : pickP m s = (l % m, { s with cells := cs, left := l / m }) := by
  unfold pickP
  rw [e]
  dsimp only
  rw [if_pos h]
theorem pickP_last {m l : Int} {s : Src} {cs : List Int} (e : drain s.cells.length s.cells s.left = (cs, l)) (h : ¬ l > 1) : pickP m s = ((((s.mixed + (s.turn + 1) * 104729) % 998244353 * ((s.mixed + (s.turn + 1) * 104729) % 998244353) + (s.turn + 1) * 17) % 2147483647 / 16) % m, ⟨cs, l, s.mixed, s.turn + 1⟩) := by
  unfold pickP
  rw [e]
  dsimp only
  rw [if_neg h]
theorem cmul_l {i j : Int} (h : 0 ≤ i ∧ i < 2 ^ 64) : CMul i j := .inl ⟨by omega, h.2⟩
theorem cmul_r {i j : Int} (h : 0 ≤ j ∧ j < 2 ^ 64) : CMul i j := .inr ⟨by omega, h.2⟩
theorem tAnd_val {t1 t2 : TT} {σ : L2.St} {H : Hp} {b1 b2 : Bool} {Q : Bool → Hp → Prop} (h1 : ∀ Q : Bool → Hp → Prop, Q b1 H → t1 σ H Q) (h2 : ∀ Q : Bool → Hp → Prop, Q b2 H → t2 σ H Q) (q : Q (b1 && b2) H) : tAnd t1 t2 σ H Q := by
  refine h1 _ ?_
  cases b1 with
  | true => exact h2 _ q
  | false => exact q
theorem pick_sp {g : Gm} {vs : List V} {H : Hp} {Q : VK} {E : XK} (h : spX g pickF vs H Q E) : ∃ a c m s, vs = [.ref a, .int m] ∧ a ≠ c ∧ H = srcH a c H s ∧ (m < 2 → Q (.int 0) H) ∧ (¬ m < 2 → m < 1000000 ∧ Q (.int (pickP m s).1) (srcH a c H (pickP m s).2)) := by
  obtain ⟨L, pvs, s, A, hv, hs, ha, h⟩ := h
  unfold pickF at h
  match pvs, hv, h with
  | [.src, .int m], hv, h =>
    obtain ⟨v1, v2, rfl, ⟨⟨a, c⟩, rfl, rfl⟩, hv2⟩ := hv.inv2
    obtain rfl : v2 = .int m := hv2
    refine ⟨a, c, m, s, rfl, hs.1, srcH_self hs, fun hm => ?_, fun hm => ?_⟩
    · dsimp only at h
      rw [if_pos hm] at h
      exact h H (.int 0) (.refl _) hs rfl
    · dsimp only at h
      rw [if_neg hm] at h
      by_cases h2 : m < 1000000
      · rw [if_pos h2] at h
        exact ⟨h2, h _ (.int _) srcH_ext (srcH_at hs.1) rfl⟩
      · rw [if_neg h2] at h
        exact h.elim
  | [], _, h => exact h.elim
  | [.non], _, h | [.bl _], _, h | [.int _], _, h | [.str _], _, h | [.tup _], _, h | [.lst _], _, h | [.dK _ _], _, h | [.src], _, h | [.fn _], _, h => exact h.elim
  | .non :: _ :: _, _, h | .bl _ :: _ :: _, _, h | .int _ :: _ :: _, _, h | .str _ :: _ :: _, _, h | .tup _ :: _ :: _, _, h | .lst _ :: _ :: _, _, h | .dK _ _ :: _ :: _, _, h | .fn _ :: _ :: _, _, h => exact h.elim
  | [.src, .non], _, h | [.src, .bl _], _, h | [.src, .str _], _, h | [.src, .tup _], _, h | [.src, .lst _], _, h | [.src, .dK _ _], _, h | [.src, .src], _, h | [.src, .fn _], _, h => exact h.elim
  | .src :: x :: _ :: _, _, h => cases x <;> exact h.elim
end
end EV
set_option Elab.async false
set_option linter.all false
set_option maxRecDepth 100000
/-! The law's source of numbers: how it is made from the script. -/
namespace EV
open PySem PySem.Spec L2 PyProof.Rows

/-! ### xs[::-1] -/
theorem range_rev (n : Nat) : sliceRange ((n : Int) - 1) (-1) (-1) = (List.range n).map (fun k => n - 1 - k) := by
  unfold sliceRange
  have e : (if (-1 : Int) > 0 then (if ((n : Int) - 1) < -1 then (-1 - ((n : Int) - 1) + -1 - 1) / -1 else 0) else (if ((n : Int) - 1) > -1 then (((n : Int) - 1) - -1 - -1 - 1) / (- -1) else 0)) = (n : Int) := by
    rw [if_neg (by decide), show (- -1 : Int) = 1 from rfl, Int.ediv_one]
    split
    · omega
    · omega
  dsimp only
  rw [e, Int.toNat_natCast]
  refine List.map_congr_left fun k hk => ?_
  have := List.mem_range.mp hk
  omega
theorem fm_take {α : Type} (ys : List α) : ∀ n : Nat, n ≤ ys.length → (List.range n).filterMap (fun k => ys[k]?) = ys.take n
  | 0, _ => rfl
  | n + 1, hn => by
    rw [List.range_succ, List.filterMap_append, fm_take ys n (by omega), List.take_add_one]
    rw [List.filterMap_cons, List.getElem?_eq_getElem (by omega)]
    rfl
theorem fm_congr {α β : Type} {f g : α → Option β} : ∀ {l : List α}, (∀ x ∈ l, f x = g x) → l.filterMap f = l.filterMap g
  | [], _ => rfl
  | x :: l, h => by
    rw [List.filterMap_cons, List.filterMap_cons, h x (by simp), fm_congr fun y hy => h y (by simp [hy])]
theorem pick_rev {α : Type} (xs : List α) : ((List.range xs.length).map (fun k => xs.length - 1 - k)).filterMap (fun k => xs[k]?) = xs.reverse := by
  rw [List.filterMap_map]
  have h : ∀ k ∈ List.range xs.length, ((fun x => xs[x]?) ∘ fun k => xs.length - 1 - k) k = xs.reverse[k]? := fun k hk => by
    have := List.mem_range.mp hk
    rw [List.getElem?_reverse this]; rfl
  rw [fm_congr h]
  have e := fm_take xs.reverse xs.reverse.length (Nat.le_refl _)
  rw [List.take_length, List.length_reverse] at e
  exact e
theorem slicePick_rev (its : List Value) : slicePick its.toArray none none (some (-1)) = its.reverse.toArray := by
  unfold slicePick
  have e : sliceBounds none none (some (-1)) its.toArray.size = ((its.length : Int) - 1, -1, -1) := by
    unfold sliceBounds
    simp
  rw [e]
  dsimp only
  rw [range_rev]
  have e2 : (fun x : Nat => its.toArray[x]?) = fun x : Nat => its[x]? := by funext x; simp
  rw [e2, pick_rev]
def tRevL (K : PySem.W.Frag) (te ts : TE) : TE := fun σ H Q => te σ H fun x H1 => ts σ H1 fun y H2 => ∃ a xs, x = .ref a ∧ y = .int (-1) ∧ SqL K H2 a xs ∧ ∀ p, H2 p = none → Q (.ref p) (upd H2 p (.lst xs.reverse))
theorem pe_revL {X : Cx} {e st : Expr} {te ts : TE} {p2 pos : Pos} (he : PE X e te) (hst : PE X st ts) (hsub : ∀ o i, ∃ ops, subscripted (.Slice none none (some st) p2) false o i = operate ops (getItem o i) := by intro o i; exact ⟨_, rfl⟩) : PE X (.Subscript e (.Slice none none (some st) p2) pos) (tRevL X.K te ts) := by
  refine ⟨fun pins s σ H Q I h => ?_⟩
  refine Subscript_ (thn (he.run pins s σ H _ I h) fun v s1 ⟨x, H1, I1, r1, q1⟩ => ?_)
  refine wpAny_Slice ?_
  rw [evalPart_none]
  refine wpAny_pure ?_
  refine wpAny_pure ?_
  rw [evalPart_some]
  refine thn (hst.run pins s1 σ H1 _ I1 q1) fun u s2 ⟨y, H2, I2, r2, a, xs, ex, ey, hx, q⟩ => ?_
  subst ex ey
  cases r1
  obtain ⟨t, rfl⟩ := r2
  have I4 : Inv X pins σ H2 { s2 with heap := s2.heap.push { cls := .type "slice", data := .fields #[.none, .none, .int (-1) t] } } := I2.kept (t' := s2.toks) fun b ob q => Heap.get?_push_of_some _ q
  obtain ⟨its, r, ht, hz⟩ := I4.list hx
  have hlen := r.length
  show wpAny (model X.prog X.w) X.A (subscriptTail e (.Slice none none (some st) p2) (.ref a) (.ref s2.heap.objs.size)) (EP X pins σ Q) X.xe { s2 with heap := s2.heap.push { cls := .type "slice", data := .fields #[.none, .none, .int (-1) t] } }
  obtain ⟨ops, hops⟩ := hsub (.ref a) (.ref s2.heap.objs.size)
  refine tail_any (ops := ops) ht.isList.typeIs slot_list_getitem.lookup ?_ hops
  refine wpAny_getItem_list_slice ht.isList (Heap.IsSliceOf.new ..) .none .none (.int _ _) (by decide) ?_ (by rw [List.size_toArray] <;> omega)
  rw [slicePick_rev]
  refine ⟨.ref _, _, I4.laid (t' := s2.toks) (o := .lst xs.reverse) (fun b ob q => Heap.get?_push_of_some _ q) (Nat.le_refl _) ?_, rfl, q _ (I4.hok.fresh (Nat.le_refl _))⟩
  exact ⟨by rw [List.length_reverse]; omega, _, 0, Vals.reverse r, Heap.get?_push_size _ rfl⟩

/-! ### the source made -/
def stirP (ns : List Int) : Int := ns.foldl (fun s x => (s * 69069 + x * 31 + 5) % 2147483629) 11
def absI (i : Int) : Int := if i < 0 then -i else i
def openP (ns : List Int) : Src := ⟨(ns.map absI).reverse, 1, stirP ns, 0⟩
def spOpen (K : PySem.W.Frag) : Sp := fun vs H Q _ => ∃ a ns, vs = [.ref a] ∧ SqL K H a (ns.map V.int) ∧ ns.length ≤ 63 ∧ ∀ H' p c, (∀ b u, H b = some u → H' b = some u) → SrcAt (some (p, c)) H' (openP ns) → H p = none → H c = none → Q (.ref p) H'
def Kept (H H' : Hp) : Prop := ∀ b u, H b = some u → H' b = some u
theorem Kept.refl (H : Hp) : Kept H H := fun _ _ h => h
theorem Kept.upd {H H' : Hp} {p : Addr} {o : HO} (k : Kept H H') (hp : H p = none) : Kept H (upd H' p o) := fun b u e => by
  rw [upd_ne (ne_of_none e hp)]; exact k b u e
theorem Kept.none {H H' : Hp} (k : Kept H H') {p : Addr} (h : H' p = none) : H p = none := by
  cases e : H p with
  | none => rfl
  | some u => rw [k p u e] at h; cases h
theorem sq_keep {K : PySem.W.Frag} {H H' : Hp} (k : Kept H H') {a : Addr} {xs : List V} (h : SqL K H a xs) : SqL K H' a xs := by
  rcases h with (h | ⟨o, h⟩) | h
  · exact .inl (.inl (k _ _ h))
  · exact .inl (.inr ⟨o, k _ _ h⟩)
  · exact .inr h
end EV
set_option Elab.async false
set_option linter.all false
set_option maxRecDepth 100000
set_option maxHeartbeats 1000000
/-! An own exception whose __init__ says super().__init__(text) and lies over ValueError: raised, caught. -/
namespace EV
open PySem PySem.Spec L2 PyProof.Rows

/-- what the top has written of the class at C and of its __init__, the def st -/
structure TmC (prog : Program) (K : PySem.W.Frag) (C : Addr) (q : Str) (st : Stmt) : Prop where
  ox : OexC K C
  fn : ∃ (fI cc cda : Addr) (oc : Value) (od : Option Addr) (kV doc pm : Value) (an : Option Addr) (ct : Value) (osl : Array (Option Value)) (ccl : Value) (cdd : Option Addr) (vs : Array Value) (ccs : Array (Option Value)) (file : Str) (tf : Tok) (cl : Value) (cld : Option Addr) (csl : Array (Option Value)),
    PySem.W.findIn K (.ref C) "__init__" = some (some (.ref fI)) ∧ PySem.W.typeIn K (.ref fI) = some (.type "function") ∧
    K.lookup fI = some ⟨oc, od, .func (PySem.W.ksFn "__init__" q (defArgs st) (defBody st) (defScope st) .none kV doc pm an (.ref cda) ct cc), osl⟩ ∧ PySem.W.codeIn K (.ref cda) q = true ∧
    K.lookup cda = some ⟨ccl, cdd, .fields vs, ccs⟩ ∧ vs[2]? = some (.str file tf) ∧ ((prog.main.file : Str) == file) = true ∧
    K.lookup cc = some ⟨cl, cld, .cell (some (.ref C)), csl⟩
  su : PySem.W.ks_superIn K C C "__init__" = some (some (.builtin "ValueError.__init__"))
  sb : PySem.W.subIn K (.ref C) (.type "ValueError") = some true
  tp : PySem.W.nsIn K cStatics "thirdparty.any" = some none
  top : (prog.main.scope.names.lookup ("super" : Str)).isSome = false
/-- what must be seen of the def's text -/
structure TmT (st : Stmt) : Prop where
  body : ∃ (p0 p1 p2 p3 p4 p5 : Pos) (j : Nat) (txt : Str) (pl : Sem Bool), defBody st = [.Expr (.Call (.Attribute (.Call (.Name "super" p0) [] [] p1) "__init__" p2) [.Constant (.str txt) j p3] [] p4) p5] ∧
    ∀ env : Env, eval (.Call (.Attribute (.Call (.Name "super" p0) [] [] p1) "__init__" p2) [.Constant (.str txt) j p3] [] p4) env = (do
      let ov ← attributeBase (.Call (.Name "super" p0) [] [] p1) "__init__" env (eval (.Call (.Name "super" p0) [] [] p1) env)
      standAt p2.atName
      let (f, first) ← holding [ov] (getMethod ov "__init__" pl)
      callWith p4 f first (backTo p4 (starEach [.Constant (.str txt) j p3] env)) [])
  hks : (defScope st).names.lookup ("super" : Str) = some .globalImplicit
  hkc : (defScope st).names.lookup ("__class__" : Str) = some .free
  hka : (defScope st).names.lookup ("self" : Str) = some .local
  hk : (defScope st).kind = .function
  hco : (defScope st).isCoroutine = false
  hgen : (defScope st).isGenerator = false
  hcell : ∀ x ∈ (defScope st).names, x.2 ≠ .cell
  hpar : ∃ ar : Arg, ((defArgs st).posonlyargs ++ (defArgs st).args).head? = some ar ∧ ar.arg = "self"
  hbind : ∀ (q : Str) (kV doc pm cdv ct : Value) (an : Option Addr) (cc : Addr) (s : Shared) (v : Value), BindsTo s (PySem.W.ksFn "__init__" q (defArgs st) (defBody st) (defScope st) .none kV doc pm an cdv ct cc) ⟨[v], []⟩ [("self", v)]

theorem tm_call {prog : Program} {w : World} {K : PySem.W.Frag} {C : Addr} {q : Str} {st : Stmt} {A : Around} {E : Value → Shared → Prop} {h : Heap} {g : Array GenState} {d : Drawn} {t : Nat} {os : OsState} {mg : Str → Option Value} {Q : Value → Shared → Prop}
    (T : TmC prog K C q st) (Tx : TmT st) (X : K.In h) (hns : h.Ns mainGlobals mg) (hms : mg "super" = none) (hb : ∃ mb, h.Ns builtinsNs mb ∧ ∀ x : Str, x ≠ "__name__" → mb x = bootBuiltins x) (hlim : h.NoLimit) (hroom : A.depth + 1 < recursionLimit)
    (hq : ∀ h' tk' t1, (∀ b o, h.get? b = some o → h'.get? b = some o) → h'.get? (h.objs.size + 1) = some (PySem.HandSPX.excO C t1) → Q (.ref (h.objs.size + 1)) ⟨h', g, d, tk', os⟩) :
    wpAny (model prog w) A (call (.ref C) []) Q E ⟨h, g, d, t, os⟩ := by
  obtain ⟨nm, qc, N, bs, bm, sn, sub, ab, col, dd, k0, k1, k2, k3, k5, hC, hbm⟩ := T.ox.cls
  obtain ⟨fI, cc, cda, oc, od, kV, doc, pm, an, ct, osl, ccl, cdd, vs, ccs, file, tf, cl, cld, csl, iC, tI, lI, cI, lc, hvs, hfile, lcc⟩ := T.fn
  obtain ⟨p0, p1, p2, p3, p4, p5, j, txt, pl, hbody, hcall⟩ := Tx.body
  obtain ⟨ar, hpar, har⟩ := Tx.hpar
  have hcl : PySem.W.clsIn K C = some { name := nm, bases := bs, mro := .ref C :: bm, ns := N, qualname := qc, hasDict := true, slotNames := sn, subclasses := sub, abstract := ab, collection := col, hasDel := false } := by unfold PySem.W.clsIn; rw [hC] <;> rfl
  generalize hcd : ({ name := nm, bases := bs, mro := .ref C :: bm, ns := N, qualname := qc, hasDict := true, slotNames := sn, subclasses := sub, abstract := ab, collection := col, hasDel := false } : ClassData) = cd at hcl
  have hmem : PySem.W.mroIn K C (.ref C) = some true := by
    unfold PySem.W.mroIn
    rw [hcl, Option.bind_some, ← hcd]
    rw [if_neg (show ¬ (List.isEmpty (Value.ref C :: bm) = true) from Bool.false_ne_true)]
    rw [List.contains_cons, beq_self_eq_true, Bool.true_or]
  refine wpAny_call (PySem.HandSPX.call_own F.excBase_ValueError (fun Y => PySem.HandSPX.refsVE_contains Y bm hbm) (X _ _ hC) (PySem.W.looks_findIn X iC) (fun self => PySem.W.bind_fn X self tI) (Nat.zero_le _) ?_)
  have kk : ∀ b o, h.get? b = some o → ((h.push (PySem.W.kdv_tup [])).push (PySem.HandSPX.excO C h.objs.size)).get? b = some o := fun b o e => Heap.get?_push_of_some _ (Heap.get?_push_of_some _ e)
  have hget : ((h.push (PySem.W.kdv_tup [])).push (PySem.HandSPX.excO C h.objs.size)).get? (h.objs.size + 1) = some (PySem.HandSPX.excO C h.objs.size) := by heap_get
  generalize he : h.objs.size + 1 = e at *
  generalize ht0 : h.objs.size = t0 at hget ⊢ kk
  generalize (h.push (PySem.W.kdv_tup [])).push (PySem.HandSPX.excO C t0) = h2 at *
  have X2 := X.keeps kk
  have hroom' : (A.under (.builtin "type.__call__" ⟨[.ref C], []⟩)).depth < recursionLimit := by rw [make_depth]; exact hroom
  refine PySem.ks_codeAny_call_defAt (binds := [("self", .ref e)]) hroom' (X2 _ _ lI) rfl (hlim.keeps kk) (PySem.W.codeRec_of X2 cI) rfl (Tx.hbind _ _ _ _ _ _ _ _ _ _) Tx.hcell (fun y hy => ?_) (fun h₁ hns1 hk1 => ?_) Tx.hco Tx.hgen Tx.hk
  · obtain rfl := List.mem_singleton.mp hy
    exact Tx.hka
  have X3 := X2.keeps hk1
  have hx3 := hk1 _ _ hget
  have kb : ∀ b o, h.get? b = some o → h₁.get? b = some o := fun b o z => hk1 b o (kk b o z)
  rw [hbody]
  refine PySem.ks_wpAt_execs_cons (PySem.ks_wpAt_Expr_any (PySem.ks_wpAt_MethodCall (pl := pl) ?_ (hcall _)) (by have z := Tx.hk; unfold interactive; show ((defScope st).kind == _ && _) = _; rw [z]; rfl))
  refine PySem.ks_wpAt_super_base Tx.hks Tx.hkc (by decide) rfl (X3 _ _ lI) rfl hpar rfl (X3 _ _ lc) rfl hvs hfile T.top ?_
  obtain ⟨mb, hb1, hb2⟩ := hb
  refine PySem.W.ks_loadName_global Tx.hk Tx.hks (Calls.loadGlobal_builtin (hns.keeps kb) hms (hb1.keeps kb) ((hb2 _ (by decide)).trans (by decide +kernel)) ⟨rfl, ?_⟩)
  refine wpAny_loadName_free Tx.hk Tx.hkc rfl ⟨_, X3 _ _ lcc, rfl⟩ ?_
  refine wpAny_loadName_local Tx.hk (by rw [har]; exact Tx.hka) hns1 (by rw [har]; rfl) ?_
  obtain ⟨oD, hD1, hD2⟩ : ∃ oD, h₁.get? C = some oD ∧ oD.data = .cls cd := ⟨_, X3 _ _ hC, by rw [← hcd]⟩
  refine PySem.ks_wpAny_isType_cls hD1 hD2 ⟨rfl, ?_⟩
  refine PySem.ks_wpAny_call_super hD1 hD2 hx3 rfl (fun c z => by cases z) (PySem.W.looks_mroIn X3 hmem) (fun h4 hso k4 => ?_)
  have X4 := X3.keeps k4
  have hx4 := k4 _ _ hx3
  have I4 : PySem.W.InstAt h4 e (PySem.HandSPX.excO C t0) C none := ⟨hx4, rfl, rfl, trivial⟩
  have hm := T.su
  unfold PySem.W.ks_superIn at hm
  rw [hcl] at hm
  refine PySem.W.kxs_getMethod PySem.W.kxs_ValueError hso (PySem.W.looks_opaque X4 T.tp) (l₀ := cd.mro) (fun A Q E s k q => wpAny_bind ((PySem.W.looks_clsIn X4 hcl) A _ E s k (wpAny_pure q))) rfl X4 hm (I4.type.andThen (PySem.W.looks_subIn X4 T.sb)) (PySem.W.ks_ne X4 I4 hcl) (by decide) ?_
  refine PySem.W.kxs_callWith (i := "ValueError.__init__") (x := e) (by rfl) (PySem.Calls.evalArgs_plain ?_)
  show wpAny _ _ (spliced ((false, eval (.Constant (.str txt) j p3) _) :: backTo p4 (starEach [] _))) _ _ _
  refine Calls.spliced_cons (Calls.Constant_str (Calls.spliced_nil ⟨Heap.get?_push_size _ rfl, ?_⟩))
  have hu : (h4.push (PySem.W.kxs_mw "ValueError.__init__" e)).get? h4.objs.size = some (PySem.W.kxs_mw "ValueError.__init__" e) := Heap.get?_push_size _ rfl
  have k5 : ∀ b o, h4.get? b = some o → (h4.push (PySem.W.kxs_mw "ValueError.__init__" e)).get? b = some o := fun b o z => Heap.get?_push_of_some _ z
  have X5 := X4.keeps k5
  have hx5 := k5 _ _ hx4
  have kall : ∀ b o, h.get? b = some o → (h4.push (PySem.W.kxs_mw "ValueError.__init__" e)).get? b = some o := fun b o z => k5 b o (k4 b o (kb b o z))
  have hlt : ∀ b o, h.get? b = some o → b ≠ e := fun b o z q => by
    have y : b < h.objs.size := Heap.lt_size z
    rw [q, ← he] at y
    exact absurd y (Nat.not_lt.mpr (Nat.le_succ _))
  clear hns1
  refine wpAny_call (codeAny_of_tree ?_)
  show wpAny _ _ (callAny (.ref h4.objs.size) ⟨_, []⟩) _ _ _
  simp only [callAny]
  refine wpAny_bind (wpAny_load hu ?_)
  simp only [PySem.W.kxs_mw, show (Value.type "method-wrapper" == Value.type "method" || Value.type "method-wrapper" == Value.type "builtin_function_or_method" || Value.type "method-wrapper" == Value.type "method-wrapper") = true by decide, if_true]
  refine PySem.W.KFB.if_so (by decide) ?_
  refine wpAny_bind (PySem.W.check_bound_init F.excBase_ValueError.toExcCallFacts (X5 _ _ hC) hx5 rfl ?_)
  refine wpAny_bind (wpAny_pure (wpAny_pure ?_))
  refine ⟨PySem.plainId_quiet F.excBase_ValueError.init.plain _, codeAny_builtin F.excBase_ValueError.initEntry ?_⟩
  refine PySem.W.exc_init_tree (cls := .ref C) (t0 := t0) (dv := none) (c2 := .none) (c3 := .none) (b4 := .bool false) hx5 (by show 1 ≤ sizeLine; decide) fun h6 k6 e6 _ => ?_
  exact wpAt_of_wpAny (wpAny_execs_nil ⟨rfl, hq h6 _ _ (fun b o z => k6 b o (hlt b o z) (kall b o z)) e6⟩)

/-- it is made -/
theorem pmk_tm {X : Cx} {C : Addr} {q x : Str} {st : Stmt} {k : Nat} {p pos : Pos} (T : TmC X.prog X.K C q st) (Tx : TmT st) (hr : Room k X.A) (hm : X.mg x = some (.ref C)) (hms : X.mg "super" = none) (hg : Gl X x := by rfl) (hdb : (x == ("__debug__" : Str)) = false := by decide) :
    PMk X (.Call (.Name x p) [] [] pos) (fun _ H Q => Q (.ref C) none H) := by
  intro pins s σ H Q I h
  refine wpAny_Call_Name_kw (ld_glob I hg hm ?_ hdb)
  refine PySem.W.callWith_K0 I.kIn T.ox.kC ?_
  show wpAny _ _ (call (.ref C) []) _ _ _
  have hsz : s.heap.objs.size ≤ s.heap.objs.size + 1 := Nat.le_succ _
  have hn : H (s.heap.objs.size + 1) = none := I.hok.fresh hsz
  have hg2 : s.heap.get? (s.heap.objs.size + 1) = none := by
    cases e : s.heap.get? (s.heap.objs.size + 1) with
    | none => rfl
    | some o => exact absurd (Heap.lt_size e) (Nat.not_lt.mpr hsz)
  obtain ⟨mb, hb1, hb2⟩ := I.mod.blt
  obtain ⟨hp, g, d, t, os⟩ := s
  have hroom : X.A.depth + 1 < recursionLimit := by have := hr.dp; omega
  refine tm_call T Tx I.kIn (I.mod.glob.keeps I.bk) hms ⟨mb, hb1.keeps I.bk, hb2⟩ (I.mod.nolimit.keeps I.bk) hroom fun h' tk' t1 kk e => ?_
  exact ⟨_, _, _, ⟨hp, g, d, t, os⟩, H, .ref C, none, rfl, I, kk, hg2, e, ⟨rfl, rfl⟩, rfl, rfl, hn, rfl, I.bare, raises_own T.ox.exC T.ox.tyC, h⟩

/-! ### raise C() -/
def Y.raise (n : Nat) : ES := fun _ s => .exc n s
theorem psx_raise {X : Cx} {F : Fr} {C : Addr} {q x : Str} {st : Stmt} {k : Nat} {p cpos pos : Pos} (n : Nat) (bd : Bd X F k) (T : TmC X.prog X.K C q st) (Tx : TmT st) (hm : X.mg x = some (.ref C)) (hms : X.mg "super" = none) (he : F.g.exc n (.ref C)) (hc : X.calm = true := by rfl) (hg : Gl X x := by rfl) (hdb : (x == ("__debug__" : Str)) = false := by decide) :
    PSX X F (.Raise (some (.Call (.Name x p) [] [] cpos)) none pos) (Y.raise n) :=
  PS.imp (ps_raise hc bd.takes (pmk_tm T Tx bd.room hm hms hg hdb)) fun D σ H ⟨ρ, s, own, S, h⟩ => ⟨n, he, h H ⟨σ, own, ρ, S⟩⟩

/-! ### try: return e; except C: return a constant -/
def Y.tryR (n : Nat) (fb fe : EE) : ES := fun ρ s => match fb ρ s with
  | .ok (x, _, s1) => .ok (.ret x, ρ, s1)
  | .exc m s1 => if m = n then (match fe [] s1 with
    | .ok (y, _, s2) => .ok (.ret y, [], s2)
    | .exc k s2 => .exc k s2
    | .err => .err) else .exc m s1
  | .err => .err
theorem SR.xn {F : Fr} {Z : Nat → Hp → Prop} {own : Nat → Option Addr} {σ : L2.St} {H : Hp} {ρ : EnvP} {s : Src} (S : SR F own σ H ρ s) : SR { F with Xn := Z } own σ H ρ s := ⟨S.keep, S.src, S.h0s, S.bsrc, S.new, S.inj, S.fresh, S.len, S.flag, S.plain, S.owned⟩
theorem SR.xn' {F : Fr} {Z : Nat → Hp → Prop} {own : Nat → Option Addr} {σ : L2.St} {H : Hp} {ρ : EnvP} {s : Src} (S : SR { F with Xn := Z } own σ H ρ s) : SR F own σ H ρ s := ⟨S.keep, S.src, S.h0s, S.bsrc, S.new, S.inj, S.fresh, S.len, S.flag, S.plain, S.owned⟩
/-- nothing known of the slots -/
theorem SR.blank {F : Fr} {own : Nat → Option Addr} {σ σ' : L2.St} {H : Hp} {ρ : EnvP} {s : Src} (S : SR F own σ H ρ s) : SR F (fun _ => none) σ' H (List.replicate σ'.length none) s where
  keep := S.keep
  src := S.src
  h0s := S.h0s
  bsrc := S.bsrc
  new := fun i a e => nomatch e
  inj := fun i j a e => nomatch e
  fresh := S.fresh
  len := by rw [List.length_replicate]
  flag := fun i pv h => by
    rw [List.getElem?_replicate] at h
    split at h <;> cases h
  plain := fun i pv h => by
    rw [List.getElem?_replicate] at h
    split at h <;> cases h
  owned := fun i a e => nomatch e
theorem psx_tryR {X : Cx} {F : Fr} {x : Str} {c : Value} {eb es : Expr} {fb fe : EE} {k : Nat} {np p1 p2 pos' pos : Pos} (n : Nat) (bd : Bd X F k) (hc : Names X x c)
    (hyes : ∀ v, F.g.exc n v → PySem.W.exmOne X.K v c = some true) (hno : ∀ m v, m ≠ n → F.g.exc m v → PySem.W.exmOne X.K v c = some false)
    (hb : ∀ (pn : List (Addr × Obj)) (xe : Value → Shared → Prop) (Z : Nat → Hp → Prop), Bd (X.tr pn xe) { F with Xn := Z } k → PX (X.tr pn xe) { F with Xn := Z } eb fb)
    (hs : ∀ (a : Addr) (oe : Obj) (pn : List (Addr × Obj)), PX (X.suite a ((a, oe) :: pn)) F es fe) (hfe : ∀ ρ s, fe ρ s = fe [] s := by intro _ _; rfl)
    (hst : X.stack = X.env :: X.outer := by rfl) (hf : X.env.frame = some X.env.locals := by rfl) :
    PSX X F (.Try [.Return (some eb) p1] [.ExceptHandler (some (.Name x np)) none [.Return (some es) p2] pos'] [] [] pos) (Y.tryR n fb fe) := by
  let ts : Addr → Value → Option Addr → TS := fun _ _ _ => TSx F (Y.ret fe)
  let tb : WX → TS := fun W D σ H => ∃ Z : Nat → Hp → Prop, (∀ cls d σ H, EX { F with Xn := Z } cls d H → W cls d σ H) ∧ TSx { F with Xn := Z } (Y.ret fb) D σ H
  refine PS.imp (ps_try_only (tb := tb) (ts := ts) hst hf hc bd.takes (fun W pn xe tk po => ?_) (fun a oe cls d pn hz hv => ?_)) fun D σ H ⟨ρ, s, own, S, h⟩ => ?_
  · refine ⟨fun pins s σ H D I ⟨Z, hW, q⟩ => ?_⟩
    have b : Bd (X.tr pn xe) { F with Xn := Z } k := ⟨bd.room, passes_call tk fun cls d σ H z => hW cls d σ H z, po, fun u s' y => tk u s' (xe_mono y fun cls d σ H z => hW cls d σ H z)⟩
    exact (psx_one (psx_ret (hb pn xe Z b))).run pins s σ H D I q
  · exact psx_one (psx_ret (hs a oe pn))
  · unfold Y.tryR at h
    refine ⟨fun m H' => (m = n → ∀ σ', TSx F (Y.ret fe) D σ' H') ∧ (m ≠ n → F.Xn m H'), fun cls d σ' H' ⟨m, hm, hx1, hx2⟩ => ?_, ρ, s, own, S.xn, ?_⟩
    · by_cases e : m = n
      · subst e
        exact ⟨true, hyes _ hm, fun _ a _ => hx1 rfl σ', fun z => nomatch z⟩
      · exact ⟨false, hno m _ e hm, fun z => (nomatch z), fun _ => ⟨m, hm, hx2 e⟩⟩
    · unfold Y.ret bindE
      match e : fb ρ s, h with
      | .ok (x, t, s1), h => exact fun v H' ⟨σ', own', S'⟩ hv => h v H' ⟨σ', own', S'.xn'⟩ hv
      | .err, h => exact h.elim
      | .exc m s1, h =>
        intro H' ⟨σ', own', ρ', S'⟩
        refine ⟨fun em σ2 => ?_, fun em => ?_⟩
        · dsimp only at h
          rw [if_pos em] at h
          refine ⟨_, s1, _, S'.xn'.blank, ?_⟩
          show OutS F (bindE (fe _ s1) _) D
          rw [hfe]
          unfold bindE
          match e2 : fe [] s1, h with
          | .ok (y, t, s2), h => exact fun v H2 ⟨σ3, own3, S3⟩ hv => h v H2 ⟨[], _, S3.blank (σ' := [])⟩ hv
          | .err, h => exact h.elim
          | .exc j s2, h => exact h
        · dsimp only at h
          rw [if_neg em] at h
          exact h H' ⟨σ', own', ρ', S'.xn'⟩
end EV
set_option Elab.async false
set_option linter.all false
set_option maxRecDepth 100000
/-! The law itself: the source is made, then the rest is read. -/
namespace EV
open PySem PySem.Spec L2

def lawStart (N : Nat) : EnvP := none :: some (.src, false) :: List.replicate (N - 2) none
def spLaw (K : PySem.W.Frag) (N : Nat) (b : ES) : Sp := fun vs H Q _ => ∃ a ns, vs = [.ref a] ∧ SqL K H a (ns.map V.int) ∧ ns.length ≤ 63 ∧ (∃ ρ s, b (lawStart N) (openP ns) = .ok (.ret (.bl true), ρ, s)) ∧ ∀ H', Q (.bl true) H'
section
variable {P : Program} {w : World} {K : PySem.W.Frag} {mg : Str → Option Value} {base : Heap} {g : Gm}
theorem bd_cx {N : List Str} {qual : Str} {scope : Scope} {f : Addr} {cdv : Value} {A : Around} {outer : List Env} {s : Shared} {H : Hp} {E : XK} {k : Nat} {F : Fr} (hr : Room k (cxOf (L2.CX P w) P w K mg base N qual scope f cdv A outer s H E).A) (ex : ∀ cls d H', EX F cls d H' → E cls d H') :
    Bd (cxOf (L2.CX P w) P w K mg base N qual scope f cdv A outer s H E) F k := by
  have tk : Takes (cxOf (L2.CX P w) P w K mg base N qual scope f cdv A outer s H E) (fun cls d _ H' => E cls d H') := takes_of rfl rfl rfl rfl
  exact ⟨hr, passes_call tk fun cls d σ H' q => ex cls d H' q, passes_of rfl, fun u s' x => tk u s' (xe_mono x fun cls d σ H' q => ex cls d H' q)⟩
theorem sr_law {p c : Addr} {s : Src} {H : Hp} {N : Nat} {v : Option V} {Z : Nat → Hp → Prop} (hs : SrcAt (some (p, c)) H s) : SR ⟨g, some (p, c), fun _ => none, notSrc (some (p, c)), Z⟩ (fun _ => none) (v :: some (.ref p) :: List.replicate (N - 2) none) H (lawStart N) s where
  keep := fun b u e => by cases e
  src := hs
  h0s := fun b u e => by cases e
  bsrc := fun a q => q
  new := fun i a e => nomatch e
  inj := fun i j a e => nomatch e
  fresh := fun a n => hs.some_ne n
  len := by
    unfold lawStart
    simp
  flag := fun i pv h => by
    unfold lawStart at h
    match i, h with
    | 0, h => cases h
    | 1, h => cases h
    | i + 2, h =>
      rw [List.getElem?_cons_succ, List.getElem?_cons_succ, List.getElem?_replicate] at h
      split at h <;> cases h
  plain := fun i pv h => by
    unfold lawStart at h
    match i, h with
    | 0, h => cases h
    | 1, h =>
      cases h
      exact ⟨.ref p, rfl, (p, c), rfl, rfl⟩
    | i + 2, h =>
      rw [List.getElem?_cons_succ, List.getElem?_cons_succ, List.getElem?_replicate] at h
      split at h <;> cases h
  owned := fun i a e => nomatch e
theorem ok_lawX {st : Stmt} {f : Addr} {fd : FuncData} {N N' : List Str} {k : Nat} {b : ES} {p1 p2 p3 p4 p5 : Pos} {rest : List Stmt} (Fn : Fun K "law" "law" st f fd) (S : FnScope N ["_law_script"] (defScope st)) (hN : N = ("_law_script" : Str) :: ("_law_source" : Str) :: N')
    (op : ∃ fo fdo, mg "_law_open_cells" = some (.ref fo) ∧ PySem.W.keepIn K (.ref fo) = true ∧ Binds K fdo ["_law_script"] [] ∧ FnOk P w K mg base (L2.CX P w) k fo fdo ["_law_script"] (spOpen K))
    (hst : defBody st = .Assign [.Name "_law_source" p1] (.Call (.Name "_law_open_cells" p2) [.Name "_law_script" p3] [] p4) p5 :: rest)
    (hg : (defScope st).names.lookup ("_law_open_cells" : Str) = some .globalImplicit) (hv : Vis (defScope st) "_law_script") (hl : Loc (defScope st) "_law_source")
    (body : ∀ (cdv : Value) (A : Around) (outer : List Env) (s : Shared) (H : Hp) (E : XK) (L : Option (Addr × Addr)) (H0 : Hp) (B : Addr → Prop) (Xn : Nat → Hp → Prop), Bd (cxOf (L2.CX P w) P w K mg base N "law" (defScope st) f cdv A outer s H E) ⟨g, L, H0, B, Xn⟩ k →
      PSXs (cxOf (L2.CX P w) P w K mg base N "law" (defScope st) f cdv A outer s H E) ⟨g, L, H0, B, Xn⟩ rest b) : FnOk P w K mg base (L2.CX P w) (k + 1) f fd ["_law_script"] (spLaw K N.length b) := by
  obtain ⟨fo, fdo, hm, hk, hb, ok⟩ := op
  refine Fun.okX Fn S (fun vs H Q E h => ?_) fun cdv A outer s H vs Q E hr h => ?_
  · obtain ⟨a, ns, rfl, _⟩ := h
    rfl
  · obtain ⟨a, ns, rfl, hS, hlen, ⟨ρ', s', hrun⟩, q⟩ := h
    have hi0 : N[0]? = some ("_law_script" : Str) := by rw [hN]; rfl
    have hi1 : N[1]? = some ("_law_source" : Str) := by rw [hN]; rfl
    have hbody : PSs (cxOf (L2.CX P w) P w K mg base N "law" (defScope st) f cdv A outer s H E) rest (fun D σ H1 => ∃ L H0 B, TSx ⟨g, L, H0, B, fun n H' => ∀ cls d, g.exc n cls → E cls d H'⟩ b D σ H1) :=
      ⟨fun pins s1 σ H1 D I ⟨L, H0, B, z⟩ => (body cdv A outer s H E L H0 B _ (bd_cx hr fun cls d H' ⟨n, h1, h2⟩ => h2 cls d h1)).run pins s1 σ H1 D I z⟩
    rw [hst]
    refine ⟨_, pss_cons (ps_set (i := 1) S.nd hi1 hl (pe_call ok hr hg hm hk hb .nil passL (pa_cons (pe_var (i := 0) hi0 hv) pa_nil)) (hf := .inl rfl)) hbody, ?_⟩
    have e0 : (L2.start N [V.ref a])[0]? = some (some (.ref a)) := rfl
    refine ⟨.ref a, e0, ?_⟩
    refine ⟨a, ns, rfl, hS, hlen, fun H' p c kp hs hp hc => ?_⟩
    refine ⟨some (p, c), fun _ => none, notSrc (some (p, c)), lawStart N.length, openP ns, fun _ => none, ?_, ?_⟩
    · have es : (L2.start N [V.ref a]).set 1 (some (.ref p)) = some (.ref a) :: some (.ref p) :: List.replicate (N.length - 2) none := by
        rw [hN]
        unfold L2.start
        show (some (V.ref a) :: List.replicate (N'.length + 1 + 1 - 1) none).set 1 (some (.ref p)) = _
        rw [show N'.length + 1 + 1 - 1 = N'.length + 1 from rfl, List.replicate_succ]
        rfl
      rw [es]
      exact sr_law hs
    · rw [hrun]
      exact fun v H2 _ hv => (show v = .bl true from hv) ▸ q H2
end
end EV
set_option Elab.async false
set_option linter.all false
set_option maxRecDepth 100000
/-! Running the readings: loops by an invariant, comprehensions by items. -/
namespace EV
open PySem L2

theorem forGo_inv {t : Tg} {b : ES} (P : Nat → EnvP → Src → Prop) : ∀ (zs : List PV) (n : Nat) (ρ : EnvP) (s : Src), P n ρ s →
    (∀ k z ρ s, zs[k]? = some z → P (n + k) ρ s → ∃ ρ1, t.set z ρ = some ρ1 ∧ ∃ ρ2 s2, b ρ1 s = .ok (.nx, ρ2, s2) ∧ P (n + k + 1) ρ2 s2) →
    ∃ ρ' s', forGo t b zs ρ s = .ok (.nx, ρ', s') ∧ P (n + zs.length) ρ' s'
  | [], n, ρ, s, h, _ => ⟨ρ, s, rfl, h⟩
  | z :: zs, n, ρ, s, h, st => by
    obtain ⟨ρ1, e1, ρ2, s2, e2, h2⟩ := st 0 z ρ s rfl h
    obtain ⟨ρ', s', e3, h3⟩ := forGo_inv P zs (n + 1) ρ2 s2 h2 fun k z ρ s e p => by
      obtain ⟨ρ1, a, ρ2, s2, b, c⟩ := st (k + 1) z ρ s (by simpa using e) (by rw [show n + (k + 1) = n + 1 + k by omega]; exact p)
      exact ⟨ρ1, a, ρ2, s2, b, by rw [show n + 1 + k + 1 = n + (k + 1) + 1 by omega]; exact c⟩
    refine ⟨ρ', s', ?_, by rw [List.length_cons, show n + (zs.length + 1) = n + 1 + zs.length by omega]; exact h3⟩
    unfold forGo
    rw [e1]
    dsimp only
    rw [e2]
    exact e3
/-- a comprehension over items, the source as it is -/
theorem compGo_nm {i : Nat} {f : EE} {ρ : EnvP} {s : Src} {g : PV → PV} {sl : Slot} (hi : ρ[i]? = some sl) (hn : ∀ pv, sl ≠ some (pv, true)) : ∀ zs : List PV, (∀ z ∈ zs, ∃ tg, f (ρ.set i (some (z, false))) s = .ok (g z, tg, s) ∧ (tg.clean || flat (g z)) = true) → compGo (.nm i) none f ρ zs s = .ok (zs.map g, s)
  | [], _ => rfl
  | z :: zs, h => by
    obtain ⟨tg, e1, e2⟩ := h z (by simp)
    unfold compGo
    have es : (Tg.nm i).set z ρ = some (ρ.set i (some (z, false))) := by
      unfold Tg.set
      rw [hi]
      split
      · rename_i pv heq
        exact absurd (Option.some.inj heq) (hn _)
      · rfl
      · rename_i heq; cases heq
    rw [es]
    dsimp only [condP]
    rw [e1]
    dsimp only
    rw [if_pos e2, compGo_nm hi hn zs fun z hz => h z (List.mem_cons_of_mem _ hz)]
    rfl
/-- .. with a test -/
theorem compGo_if {i : Nat} {c f : EE} {ρ : EnvP} {s : Src} {p : PV → Bool} {g : PV → PV} {sl : Slot} (hi : ρ[i]? = some sl) (hn : ∀ pv, sl ≠ some (pv, true)) : ∀ zs : List PV, (∀ z ∈ zs, ∃ tc, c (ρ.set i (some (z, false))) s = .ok (.bl (p z), tc, s)) →
    (∀ z ∈ zs, p z = true → ∃ tg, f (ρ.set i (some (z, false))) s = .ok (g z, tg, s) ∧ (tg.clean || flat (g z)) = true) → compGo (.nm i) (some c) f ρ zs s = .ok ((zs.filter p).map g, s)
  | [], _, _ => rfl
  | z :: zs, hc, h => by
    obtain ⟨tc, ec⟩ := hc z (by simp)
    have ih := compGo_if hi hn zs (fun z hz => hc z (List.mem_cons_of_mem _ hz)) fun z hz => h z (List.mem_cons_of_mem _ hz)
    unfold compGo
    have es : (Tg.nm i).set z ρ = some (ρ.set i (some (z, false))) := by
      unfold Tg.set
      rw [hi]
      split
      · rename_i pv heq
        exact absurd (Option.some.inj heq) (hn _)
      · rfl
      · rename_i heq; cases heq
    rw [es]
    dsimp only [condP]
    rw [ec]
    dsimp only
    cases hp : p z with
    | false =>
      dsimp only
      rw [ih, List.filter_cons_of_neg (by rw [hp]; exact Bool.false_ne_true)]
    | true =>
      obtain ⟨tg, e1, e2⟩ := h z (by simp) hp
      dsimp only
      rw [e1]
      dsimp only
      rw [if_pos e2, ih, List.filter_cons_of_pos hp]
      rfl
/-- .. that draws: the source goes on -/
theorem compGo_draw {i : Nat} {f : EE} {ρ : EnvP} {sl : Slot} (Q : Nat → PV → Prop) (hi : ρ[i]? = some sl) (hn : ∀ pv, sl ≠ some (pv, true)) : ∀ (zs : List PV) (n : Nat) (s : Src), (∀ k z s, zs[k]? = some z → ∃ y tg s', f (ρ.set i (some (z, false))) s = .ok (y, tg, s') ∧ (tg.clean || flat y) = true ∧ Q (n + k) y) →
    ∃ ys s', compGo (.nm i) none f ρ zs s = .ok (ys, s') ∧ ys.length = zs.length ∧ ∀ k y, ys[k]? = some y → Q (n + k) y
  | [], n, s, _ => ⟨[], s, rfl, rfl, fun k y e => by simp at e⟩
  | z :: zs, n, s, h => by
    obtain ⟨y, tg, s1, e1, e2, q⟩ := h 0 z s rfl
    obtain ⟨ys, s', e3, e4, e5⟩ := compGo_draw Q hi hn zs (n + 1) s1 fun k z s e => by
      have := h (k + 1) z s (by simpa using e)
      rw [show n + (k + 1) = n + 1 + k by omega] at this
      exact this
    refine ⟨y :: ys, s', ?_, by simp [e4], fun k y' e => ?_⟩
    · unfold compGo
      have es : (Tg.nm i).set z ρ = some (ρ.set i (some (z, false))) := by
        unfold Tg.set
        rw [hi]
        split
        · rename_i pv heq
          exact absurd (Option.some.inj heq) (hn _)
        · rfl
        · rename_i heq; cases heq
      rw [es]
      dsimp only [condP]
      rw [e1]
      dsimp only
      rw [if_pos e2, e3]
    · cases k with
      | zero =>
        obtain rfl : y = y' := by simpa using e
        exact q
      | succ k =>
        have := e5 k y' (by simpa using e)
        rw [show n + (k + 1) = n + 1 + k by omega]
        exact this
/-! ### words -/
def nI (k : Nat) : PV := .int (k : Int)
theorem flats_ints : ∀ ns : List Nat, flats (ns.map nI) = true
  | [] => rfl
  | n :: ns => by
    rw [List.map_cons]
    show (flat (nI n) && flats (ns.map nI)) = true
    rw [flats_ints ns]
    rfl
theorem flat_tup {xs : List PV} : flat (.tup xs) = flats xs := by simp [flat]
theorem shP_str {x : Str} (h : PyData.strOk x = true) : shP (.str x) = true := by
  show (PyData.strOk x && decide (0 ≤ 64)) = true
  rw [h]; rfl
theorem eqF_str {n : Bool} {x y : Str} {t t' : Tag} (hx : PyData.strOk x = true) (hy : PyData.strOk y = true) : eqF n (.str x) t (.str y) t' = some (.bl (n != (x == y)), .cl) := by
  unfold eqF
  rw [shP_str hx, shP_str hy]; rfl
theorem eqF_int {n : Bool} {x y : Int} {t t' : Tag} : eqF n (.int x) t (.int y) t' = some (.bl (n != (x == y)), .cl) := rfl
theorem eqP_str {x y : Str} : eqP (.str x) (.str y) = (x == y) := rfl
theorem eqP_int {x y : Int} : eqP (.int x) (.int y) = (x == y) := rfl
theorem eqF_same {n : Bool} {x : PV} {t t' : Tag} (h : shP x = true) : eqF n x t x t' = some (.bl (!n), .cl) := by
  unfold eqF
  rw [h]
  have e : eqP x x = true := SeqAt.eqv_refl _ (SeqAt.canLay_of_shaped h)
  rw [e]
  cases n <;> rfl
theorem ixF_tup {xs : List PV} {k : Nat} {z : PV} {t t' : Tag} (h : xs[k]? = some z) : ixF (.tup xs) t (.int (k : Int)) t' = some (z, t.item) := by
  show (atI xs (k : Int)).map (fun z => (z, t.item)) = _
  rw [atI_nat h]; rfl
theorem ixF_lst {xs : List PV} {k : Nat} {z : PV} {t t' : Tag} (h : xs[k]? = some z) : ixF (.lst xs) t (.int (k : Int)) t' = some (z, t.item) := by
  show (atI xs (k : Int)).map (fun z => (z, t.item)) = _
  rw [atI_nat h]; rfl
theorem ixF_last {xs : List PV} {z : PV} {t t' : Tag} : ixF (.lst (xs ++ [z])) t (.int (-1)) t' = some (z, t.item) := by
  show (atI (xs ++ [z]) (-1)).map (fun z => (z, t.item)) = _
  rw [atI_last]
  rfl
theorem small_lt {n : Nat} (h : n ≤ 100000) : n < sizeLine := Nat.lt_of_le_of_lt h (by decide)
theorem small_le {n : Nat} (h : n ≤ 100000) : n ≤ sizeLine := Nat.le_of_lt (small_lt h)
theorem pick_range {m : Int} {s : Src} (h : 0 < m) : 0 ≤ (pickP m s).1 ∧ (pickP m s).1 < m := by
  unfold pickP
  dsimp only
  split
  · exact ⟨Int.emod_nonneg _ (by omega), Int.emod_lt_of_pos _ h⟩
  · exact ⟨Int.emod_nonneg _ (by omega), Int.emod_lt_of_pos _ h⟩
/-- a draw below m -/
theorem pick_nat {m : Nat} {s : Src} (h : 0 < m) (hm : m < 1000000) : ∃ r s', r < m ∧ pickF [.src, .int (m : Int)] s = .ok (nI r, s') := by
  unfold pickF
  by_cases h2 : (m : Int) < 2
  · exact ⟨0, s, h, by dsimp only; rw [if_pos h2]; rfl⟩
  · obtain ⟨h3, h4⟩ := pick_range (m := m) (s := s) (by omega)
    refine ⟨(pickP m s).1.toNat, (pickP m s).2, by omega, ?_⟩
    dsimp only
    rw [if_neg h2, if_pos (by omega)]
    unfold nI
    rw [Int.toNat_of_nonneg h3]
end EV
set_option Elab.async false
set_option linter.all false
/-! The readings unfolded, for simp. -/
namespace EV
open PySem L2
section
variable {α β : Type} (ρ : EnvP) (s : Src) (i j : Nat) (a b c f : EE) (r : EEs) (g : PV → Tag → PV → Tag → Option (PV × Tag)) (h : List (PV × Tag) → Option (PV × Tag)) (fn : Fun1) (x z : PV) (t : Tag)
@[simp] theorem ev_rok (v : α) (k : α → Res β) : (Res.ok v).bind k = k v := rfl
@[simp] theorem ev_rexc (n : Nat) (k : α → Res β) : (Res.exc n s).bind k = .exc n s := rfl
@[simp] theorem ev_rerr (k : α → Res β) : (Res.err : Res α).bind k = .err := rfl
@[simp] theorem ev_bok (k : PV → Tag → Src → Res (Flw × EnvP × Src)) : bindE (.ok (x, t, s)) k = k x t s := rfl
@[simp] theorem ev_bexc (n : Nat) (k : PV → Tag → Src → Res (Flw × EnvP × Src)) : bindE (.exc n s) k = .exc n s := rfl
@[simp] theorem ev_berr (k : PV → Tag → Src → Res (Flw × EnvP × Src)) : bindE .err k = .err := rfl
@[simp] theorem ev_nil : E.nil ρ s = .ok ([], s) := rfl
@[simp] theorem ev_cons : E.cons a r ρ s = (a ρ s).bind fun p => (r ρ p.2.2).bind fun q => .ok ((p.1, p.2.1) :: q.1, q.2) := rfl
@[simp] theorem ev_var : E.var i ρ s = match ρ[i]? with
  | some (some (pv, true)) => .ok (pv, .own i, s)
  | some (some (pv, false)) => .ok (pv, .cl, s)
  | _ => .err := rfl
@[simp] theorem ev_cst : E.cst x ρ s = .ok (x, .cl, s) := rfl
@[simp] theorem ev_bin : E.bin g a b ρ s = (a ρ s).bind fun p => (b ρ p.2.2).bind fun q => match g p.1 p.2.1 q.1 q.2.1 with
  | some z => .ok (z.1, z.2, q.2.2)
  | none => .err := rfl
@[simp] theorem ev_tup : E.tup r ρ s = match r ρ s with
  | .ok (xs, s1) => if xs.length ≤ sizeLine then .ok (.tup (xs.map (·.1)), dispTag xs, s1) else .err
  | .exc n s1 => .exc n s1
  | .err => .err := rfl
@[simp] theorem ev_lst : E.lst r ρ s = match r ρ s with
  | .ok (xs, s1) => if xs.length ≤ sizeLine ∧ (xs.all (fun p => p.2.clean) || flats (xs.map (·.1))) = true then .ok (.lst (xs.map (·.1)), .fr, s1) else .err
  | .exc n s1 => .exc n s1
  | .err => .err := rfl
@[simp] theorem ev_isi (ty : Ty) : E.isi ty a ρ s = (a ρ s).bind fun p => match isT ty p.1 with
  | some b => .ok (.bl b, .cl, p.2.2)
  | none => .err := rfl
@[simp] theorem ev_callB : E.callB h r ρ s = match r ρ s with
  | .ok (xs, s1) => match h xs with
    | some z => .ok (z.1, z.2, s1)
    | none => .err
  | .exc n s1 => .exc n s1
  | .err => .err := rfl
@[simp] theorem ev_callN : E.callN fn r ρ s = match r ρ s with
  | .ok (xs, s1) => match fn (xs.map (·.1)) s1 with
    | .ok (r, s2) => .ok (r, newTag xs r, s2)
    | .exc n s2 => .exc n s2
    | .err => .err
  | .exc n s1 => .exc n s1
  | .err => .err := rfl
@[simp] theorem ev_ite : E.ite c a b ρ s = (c ρ s).bind fun p => match p.1 with
  | .bl true => a ρ p.2.2
  | .bl false => b ρ p.2.2
  | _ => .err := rfl
@[simp] theorem ev_and : E.and a b ρ s = (a ρ s).bind fun p => match p.1 with
  | .bl true => b ρ p.2.2
  | .bl false => .ok (.bl false, .cl, p.2.2)
  | _ => .err := rfl
@[simp] theorem ev_or : E.or a b ρ s = (a ρ s).bind fun p => match p.1 with
  | .bl true => .ok (.bl true, .cl, p.2.2)
  | .bl false => b ρ p.2.2
  | _ => .err := rfl
@[simp] theorem ev_not : E.not a ρ s = (a ρ s).bind fun p => match p.1 with
  | .bl b => .ok (.bl (!b), .cl, p.2.2)
  | _ => .err := rfl
@[simp] theorem ev_neg : E.neg a ρ s = (a ρ s).bind fun p => match p.1 with
  | .int i => .ok (.int (-i), .cl, p.2.2)
  | _ => .err := rfl
@[simp] theorem ev_dnew : E.dnew ρ s = .ok (.dK [] [], .fr, s) := rfl
@[simp] theorem ev_dict1 : E.dict1 a b ρ s = (a ρ s).bind fun p => (b ρ p.2.2).bind fun q => match keyOf p.1 with
  | some k => if (q.2.1.clean || flat q.1) = true then .ok (.dK [k] [q.1], .fr, q.2.2) else .err
  | none => .err := rfl
@[simp] theorem ev_slice (lo hi : Option EE) : E.slice a lo hi ρ s = (a ρ s).bind fun p => E.part lo ρ (fun l s2 => E.part hi ρ (fun u s3 => match slF p.1 p.2.1 l u with
    | some z => .ok (z.1, z.2, s3)
    | none => .err) s2) p.2.2 := rfl
variable (u v : ES)
@[simp] theorem ev_nop : Y.nop ρ s = .ok (.nx, ρ, s) := rfl
@[simp] theorem ev_seq : Y.seq u v ρ s = match u ρ s with
  | .ok (.nx, ρ1, s1) => v ρ1 s1
  | r => r := rfl
@[simp] theorem ev_asg : Y.asg i f ρ s = bindE (f ρ s) fun x t s1 => match setv ρ i x t with
  | some ρ1 => .ok (.nx, ρ1, s1)
  | none => .err := rfl
@[simp] theorem ev_asgT (tg : Tg) : Y.asgT tg f ρ s = bindE (f ρ s) fun x tx s1 => if (tx.clean || flat x) = true then (match tg.set x ρ with
  | some ρ1 => .ok (.nx, ρ1, s1)
  | none => .err) else .err := rfl
@[simp] theorem ev_ret : Y.ret f ρ s = bindE (f ρ s) fun x t s1 => .ok (.ret x, ρ, s1) := rfl
@[simp] theorem ev_if : Y.ite c u v ρ s = bindE (c ρ s) fun x t s1 => match x with
  | .bl true => u ρ s1
  | .bl false => v ρ s1
  | _ => .err := rfl
@[simp] theorem ev_raise (n : Nat) : Y.raise n ρ s = .exc n s := rfl
@[simp] theorem ev_append : Y.append i f ρ s = match lstAt ρ i with
  | some xs => bindE (f ρ s) fun y t s1 => if (t.clean || flat y) = true ∧ xs.length < sizeLine then .ok (.nx, ρ.set i (some (.lst (xs ++ [y]), true)), s1) else .err
  | none => .err := rfl
@[simp] theorem ev_dset (fk fv : EE) : Y.dset i fk fv ρ s = bindE (fv ρ s) fun y t s1 => match dicAt ρ i with
  | some (ks, vs) => bindE (fk ρ s1) fun k _ s2 => match keyOf k with
    | some k => if (t.clean || flat y) = true ∧ ks.length < sizeLine then .ok (.nx, ρ.set i (some (.dK (dput ks vs k y).1 (dput ks vs k y).2, true)), s2) else .err
    | none => .err
  | none => .err := rfl
@[simp] theorem ev_asg2 : Y.asg2 i j a b ρ s = bindE (a ρ s) fun x tx s1 => bindE (b ρ s1) fun y ty s2 => match pairS ρ i x tx j y ty with
  | some ρ1 => .ok (.nx, ρ1, s2)
  | none => .err := rfl
@[simp] theorem ev_run (np N : Nat) (vs : List PV) : runF np N u vs s = if vs.length = np then (match u (startP N vs) s with
  | .ok (.ret z, _, s') => .ok (z, s')
  | .ok (.nx, _, s') => .ok (.non, s')
  | .exc n s' => .exc n s'
  | _ => .err) else .err := rfl
@[simp] theorem ev_start (N : Nat) (vs : List PV) : startP N vs = vs.map (fun v => some (v, false)) ++ List.replicate (N - vs.length) none := rfl
@[simp] theorem ev_setcl (hi : i < ρ.length) : setv ρ i z .cl = some (ρ.set i (some (z, false))) := by unfold setv; rw [if_pos hi]
@[simp] theorem ev_setfr (hi : i < ρ.length) : setv ρ i z .fr = some (ρ.set i (some (z, true))) := by unfold setv; rw [if_pos hi]
@[simp] theorem ev_clf : Tag.fr.clean = true := rfl
@[simp] theorem ev_clc : Tag.cl.clean = true := rfl
@[simp] theorem ev_clo : (Tag.own i).clean = false := rfl
@[simp] theorem ev_cld : Tag.di.clean = false := rfl
@[simp] theorem ev_itf : Tag.fr.item = .cl := rfl
@[simp] theorem ev_itc : Tag.cl.item = .cl := rfl
@[simp] theorem ev_ito : (Tag.own i).item = .cl := rfl
@[simp] theorem ev_itd : Tag.di.item = .di := rfl
@[simp] theorem ev_fnon : flat .non = true := rfl
@[simp] theorem ev_fbl (b : Bool) : flat (.bl b) = true := rfl
@[simp] theorem ev_fint (n : Int) : flat (.int n) = true := rfl
@[simp] theorem ev_fnI (n : Nat) : flat (nI n) = true := rfl
@[simp] theorem ev_fstr (y : Str) : flat (.str y) = true := rfl
@[simp] theorem ev_fsrc : flat .src = true := rfl
@[simp] theorem ev_ftup (xs : List PV) : flat (.tup xs) = flats xs := by simp [flat]
@[simp] theorem ev_flst (xs : List PV) : flat (.lst xs) = false := rfl
@[simp] theorem ev_fs0 : flats [] = true := rfl
@[simp] theorem ev_fs1 (xs : List PV) : flats (x :: xs) = (flat x && flats xs) := rfl
@[simp] theorem ev_fsI (ns : List Nat) : flats (ns.map nI) = true := flats_ints ns
@[simp] theorem ev_disp0 : dispTag [] = .cl := rfl
@[simp] theorem ev_add (m n : Int) (t t' : Tag) : addF (.int m) t (.int n) t' = some (.int (m + n), .cl) := rfl
@[simp] theorem ev_sub (m n : Int) (t t' : Tag) : subF (.int m) t (.int n) t' = some (.int (m - n), .cl) := rfl
@[simp] theorem ev_cmp (p : Int → Int → Bool) (m n : Int) (t t' : Tag) : cmpF p (.int m) t (.int n) t' = some (.bl (p m n), .cl) := rfl
@[simp] theorem ev_eqi (n : Bool) (y y' : Int) (t t' : Tag) : eqF n (.int y) t (.int y') t' = some (.bl (n != (y == y')), .cl) := rfl
end
theorem flats_app : ∀ xs ys : List PV, flats (xs ++ ys) = (flats xs && flats ys)
  | [], _ => by simp
  | x :: xs, ys => by
    rw [List.cons_append, ev_fs1, ev_fs1, flats_app xs ys, Bool.and_assoc]
theorem flats_all {xs : List PV} (h : ∀ x ∈ xs, flat x = true) : flats xs = true := by
  induction xs with
  | nil => rfl
  | cons x xs ih => rw [ev_fs1, h x (by simp), ih fun y hy => h y (by simp [hy])]; rfl
theorem flat_of {xs : List PV} (h : flats xs = true) : ∀ x ∈ xs, flat x = true := by
  induction xs with
  | nil => intro x hx; cases hx
  | cons x xs ih =>
    rw [ev_fs1, Bool.and_eq_true] at h
    intro y hy
    rcases List.mem_cons.mp hy with rfl | hy
    · exact h.1
    · exact ih h.2 y hy
/-- a slot that is not the frame's own -/
def pl (sl : Slot) : Prop := ∀ pv, sl ≠ some (pv, true)
theorem pl_none : pl none := fun _ h => nomatch h
theorem pl_some (x : PV) : pl (some (x, false)) := fun _ h => by cases h
theorem set_nm {ρ : EnvP} {i : Nat} {sl : Slot} (z : PV) (hi : ρ[i]? = some sl) (hn : pl sl) : (Tg.nm i).set z ρ = some (ρ.set i (some (z, false))) := by
  unfold Tg.set
  rw [hi]
  split
  · rename_i pv heq
    exact absurd (Option.some.inj heq) (hn _)
  · rfl
  · rename_i heq; cases heq
theorem intsOf_nI : ∀ ms : List Nat, intsOf (ms.map nI) = some (ms.map fun (m : Nat) => (m : Int))
  | [] => rfl
  | m :: ms => by
    rw [List.map_cons, List.map_cons]
    show (intsOf (ms.map nI)).map _ = _
    rw [intsOf_nI ms]; rfl
theorem sum_cast : ∀ ms : List Nat, (ms.map fun (m : Nat) => (m : Int)).sum = ((ms.sum : Nat) : Int)
  | [] => rfl
  | m :: ms => by
    rw [List.map_cons, List.sum_cons, List.sum_cons, sum_cast ms]
    omega
theorem sumF_nI (ms : List Nat) (t : Tag) : sumF [(.lst (ms.map nI), t)] = some (nI ms.sum, .cl) := by
  show (intsOf (ms.map nI)).map _ = _
  rw [intsOf_nI]
  show some (PV.int (ms.map fun (m : Nat) => (m : Int)).sum, Tag.cl) = _
  rw [sum_cast]; rfl
/-- what a call with clean arguments gives, when it is no container -/
def noBox : PV → Bool
  | .lst _ => false
  | .dK _ _ => false
  | _ => true
theorem newTag_cl {xs : List (PV × Tag)} {r : PV} (hc : xs.all (fun p => p.2.clean) = true) (hr : noBox r = true) : newTag xs r = .cl := by
  unfold newTag callTag
  rw [hc]
  cases r <;> first | (simp [noBox] at hr; done) | (split <;> rfl)
theorem newTag_fl {xs : List (PV × Tag)} {r : PV} (hf : flats (xs.map (·.1)) = true) (hr : noBox r = true) : newTag xs r = .cl := by
  unfold newTag
  rw [if_pos hf]
  cases r <;> first | (simp [noBox] at hr; done) | rfl
@[simp] theorem ev_tag1 (x : PV) (ys : List PV) : newTag [(x, .cl)] (.tup ys) = .cl := newTag_cl rfl rfl
@[simp] theorem ev_tag2 (x : PV) (n : Int) : newTag [(x, .cl)] (.int n) = .cl := newTag_cl rfl rfl
@[simp] theorem ev_tag3 (x : PV) (y : Str) : newTag [(x, .cl)] (.str y) = .cl := newTag_cl rfl rfl
@[simp] theorem ev_tag4 (x : PV) (n : Nat) : newTag [(x, .cl)] (nI n) = .cl := newTag_cl rfl rfl
theorem newTag_lst {x : PV} {ys : List PV} (h1 : flat x = true) (h2 : flats ys = true) : newTag [(x, .cl)] (.lst ys) = .fr := by
  unfold newTag
  rw [if_pos (by simp [h1])]
  show (if flats ys = true then Tag.fr else Tag.cl) = _
  rw [if_pos h2]
/-- a comprehension over the items of a value -/
theorem comp_seq {a f : EE} {i : Nat} {ρ : EnvP} {s s1 : Src} {zs : List PV} {x : PV} {t : Tag} {c : Option Nat} {g : PV → PV} {sl : Slot} (ha : a ρ s = .ok (x, t, s1)) (hs : seqF x t = some (zs, c)) (hi : ρ[i]? = some sl) (hn : pl sl)
    (h : ∀ z ∈ zs, ∃ tg, f ((wipeP ρ [i]).set i (some (z, false))) s1 = .ok (g z, tg, s1) ∧ (tg.clean || flat (g z)) = true) : E.comp (I.seq a) (.nm i) none f [i] ρ s = .ok (.lst (zs.map g), .fr, s1) := by
  unfold E.comp I.seq
  rw [ha]
  dsimp only
  rw [hs]
  dsimp only
  have hl : i < ρ.length := (List.getElem?_eq_some_iff.mp hi).1
  have hu : [i].all (unflagged ρ) = true := by
    simp only [List.all_cons, List.all_nil, Bool.and_true]
    unfold unflagged
    rw [hi]
    split
    · rename_i heq
      exact absurd (Option.some.inj heq) (hn _)
    · rfl
  rw [if_pos hu, compGo_nm (sl := none) (by show (List.set _ _ _)[i]? = _; rw [List.getElem?_set_self]; exact hl) pl_none zs h]
/-- .. over given items (a range) -/
theorem comp_args {q : List (PV × Tag) → Option (List PV)} {fs : EEs} {f : EE} {i : Nat} {ρ : EnvP} {s s1 : Src} {zs : List PV} {xs : List (PV × Tag)} {g : PV → PV} {sl : Slot} (ha : fs ρ s = .ok (xs, s1)) (hs : q xs = some zs) (hi : ρ[i]? = some sl) (hn : pl sl)
    (h : ∀ z ∈ zs, ∃ tg, f ((wipeP ρ [i]).set i (some (z, false))) s1 = .ok (g z, tg, s1) ∧ (tg.clean || flat (g z)) = true) : E.comp (I.args q fs) (.nm i) none f [i] ρ s = .ok (.lst (zs.map g), .fr, s1) := by
  unfold E.comp I.args
  rw [ha]
  dsimp only
  rw [hs]
  dsimp only
  have hl : i < ρ.length := (List.getElem?_eq_some_iff.mp hi).1
  have hu : [i].all (unflagged ρ) = true := by
    simp only [List.all_cons, List.all_nil, Bool.and_true]
    unfold unflagged
    rw [hi]
    split
    · rename_i heq
      exact absurd (Option.some.inj heq) (hn _)
    · rfl
  rw [if_pos hu, compGo_nm (sl := none) (by show (List.set _ _ _)[i]? = _; rw [List.getElem?_set_self]; exact hl) pl_none zs h]
theorem rng1_nat {n : Nat} (h : n ≤ 100000) (t : Tag) : rng1F [(nI n, t)] = some ((List.range n).map nI) := by
  show (if range62 (n : Int) && decide ((n : Int).toNat ≤ sizeLine) then some (rangeL 0 (n : Int).toNat) else none) = _
  rw [Int.toNat_natCast, if_pos]
  · unfold rangeL nI
    congr 1
    refine List.map_congr_left fun k _ => ?_
    rw [Int.zero_add]
  · unfold range62
    have := small_le h
    simp only [Bool.and_eq_true, decide_eq_true_eq]
    omega
end EV
set_option Elab.async false
set_option linter.all false
set_option maxRecDepth 100000
set_option maxHeartbeats 4000000
namespace K32
open PySem PySem.Spec L2 EV
abbrev topS (i : Nat) : Stmt := PySem.Challenge.pw_everrows_k32_rows_of_steps.main.body.getD i (.Pass ⟨0, 0, 0, 0⟩)
/-- the exceptions by number -/
def excM (mg : Str → Option Value) (n : Nat) (v : Value) : Prop := (n = 0 ∧ mg "TooMany" = some v)
/-- what the top has written -/
structure Fx (P : Program) (K : PySem.W.Frag) (mg : Str → Option Value) : Prop where
  b_abs : mg "abs" = none
  b_int : mg "int" = none
  b_isinstance : mg "isinstance" = none
  b_len : mg "len" = none
  b_list : mg "list" = none
  b_range : mg "range" = none
  b_sorted : mg "sorted" = none
  b_str : mg "str" = none
  b_sum : mg "sum" = none
  b_super : mg "super" = none
  b_tuple : mg "tuple" = none
  c_JOIN : ∃ t, mg "JOIN" = some (.str "join" t)
  c_MIX : ∃ t, mg "MIX" = some (.str "mix" t)
  c_MOST_SIZE : ∃ t, mg "MOST_SIZE" = some (.int 200 t)
  x_TooMany : ∃ C, mg "TooMany" = some (.ref C) ∧ TmC P K C "TooMany.__init__" (inClass (topS 2) 0) ∧ PySem.W.exmOne K (.ref C) (.ref C) = some true
  f_parts_of : ∃ f fd, mg "parts_of" = some (.ref f) ∧ Fun K "parts_of" "parts_of" (topS 6) f fd ∧ Binds K fd ["row"] []
  f_size_of : ∃ f fd, mg "size_of" = some (.ref f) ∧ Fun K "size_of" "size_of" (topS 7) f fd ∧ Binds K fd ["row"] []
  f_numbers_in : ∃ f fd, mg "numbers_in" = some (.ref f) ∧ Fun K "numbers_in" "numbers_in" (topS 10) f fd ∧ Binds K fd ["step"] []
  f_sizes : ∃ f fd, mg "sizes" = some (.ref f) ∧ Fun K "sizes" "sizes" (topS 11) f fd ∧ Binds K fd ["steps"] []
  f_needed : ∃ f fd, mg "needed" = some (.ref f) ∧ Fun K "needed" "needed" (topS 13) f fd ∧ Binds K fd ["steps"] []
  f_row_of : ∃ f fd, mg "row_of" = some (.ref f) ∧ Fun K "row_of" "row_of" (topS 12) f fd ∧ Binds K fd ["steps"] []
  f__law_open_cells : ∃ f fd, mg "_law_open_cells" = some (.ref f) ∧ Fun K "_law_open_cells" "_law_open_cells" (topS 15) f fd ∧ Binds K fd ["_law_script"] []
  f__law_pick : ∃ f fd, mg "_law_pick" = some (.ref f) ∧ Fun K "_law_pick" "_law_pick" (topS 16) f fd ∧ Binds K fd ["_law_source", "_law_most"] []
  f__law_draw_steps : ∃ f fd, mg "_law_draw_steps" = some (.ref f) ∧ Fun K "_law_draw_steps" "_law_draw_steps" (topS 17) f fd ∧ Binds K fd ["_law_source", "_law_letters", "_law_most"] []
  f__law_numbers : ∃ f fd, mg "_law_numbers" = some (.ref f) ∧ Fun K "_law_numbers" "_law_numbers" (topS 18) f fd ∧ Binds K fd ["_law_step"] []
  f__law_told_row : ∃ f fd, mg "_law_told_row" = some (.ref f) ∧ Fun K "_law_told_row" "_law_told_row" (topS 19) f fd ∧ Binds K fd ["_law_steps"] []
  f__law_size : ∃ f fd, mg "_law_size" = some (.ref f) ∧ Fun K "_law_size" "_law_size" (topS 20) f fd ∧ Binds K fd ["_law_steps"] []
  f__law_tried : ∃ f fd, mg "_law_tried" = some (.ref f) ∧ Fun K "_law_tried" "_law_tried" (topS 21) f fd ∧ Binds K fd ["_law_steps"] []
  f_law : ∃ f fd, mg "law" = some (.ref f) ∧ Fun K "law" "law" (topS 22) f fd ∧ Binds K fd ["_law_script"] []
section
variable {P : Program} {w : World} {K : PySem.W.Frag} {mg : Str → Option Value} {base : Heap} {fns : Nat → Option Addr}
theorem tt_TooMany : TmT (inClass (topS 2) 0) := ⟨⟨_, _, _, _, _, _, _, _, _, rfl, fun _ => rfl⟩, rfl, rfl, rfl, rfl, rfl, rfl, by decide +kernel, ⟨_, rfl, rfl⟩, fun _ _ _ _ _ _ _ _ _ _ => .of_eq rfl⟩
theorem Fx.in_TooMany (W : Fx P K mg) : excM mg 0 (.ref W.x_TooMany.choose) := ⟨rfl, W.x_TooMany.choose_spec.1⟩
theorem Fx.yes_TooMany (W : Fx P K mg) {v : Value} (h : excM mg 0 v) : PySem.W.exmOne K v (.ref W.x_TooMany.choose) = some true := by
  have e : v = .ref W.x_TooMany.choose := by
    have q := W.x_TooMany.choose_spec.1
    have z := h.2
    rw [q] at z
    exact (Option.some.inj z).symm
  rw [e]
  exact W.x_TooMany.choose_spec.2.2
theorem Fx.no_TooMany (W : Fx P K mg) {m : Nat} {v : Value} (hn : m ≠ 0) (h : excM mg m v) : PySem.W.exmOne K v (.ref W.x_TooMany.choose) = some false := absurd h.1 hn
theorem sc_parts_of : FnScope ["row"] ["row"] (defScope (topS 6)) := ⟨rfl, rfl, rfl, by decide +kernel, rfl, by decide +kernel, by decide +kernel⟩
def parts_ofB : ES :=
    (Y.seq (Y.ite (E.isi .str (E.var 0))
    (Y.ret (E.tup E.nil))
    Y.nop)
    (Y.ret (E.ite (E.bin (inF false) (E.bin ixF (E.var 0) (E.cst (.int 0))) (E.tup (E.cons (E.cst (.str "join")) (E.cons (E.cst (.str "mix")) E.nil)))) (E.bin ixF (E.var 0) (E.cst (.int 1))) (E.tup (E.cons (E.bin ixF (E.var 0) (E.cst (.int 1))) E.nil)))))
def parts_ofF : Fun1 := runF 1 1 parts_ofB
theorem df_parts_of (W : Fx P K mg) {k : Nat} : Df P w K mg base ⟨K, fns, excM mg⟩ (k + 1) "parts_of" ["row"] parts_ofF := by
  obtain ⟨f, fd, hm, Fn, hb⟩ := W.f_parts_of
  exact df_of (N := ["row"]) (ps := ["row"]) (b := parts_ofB) Fn sc_parts_of hm hb fun cdv A outer s H E L H0 B Xn bd =>
    (psx_cons (psx_if (ptx_val (px_isi .str (px_var 0) W.b_isinstance W.b_str bt_str))
    (psx_one (psx_ret (px_tup pxs_nil)))
    psx_nil)
    (psx_one (psx_ret (px_ite (ptx_in bd.room (px_sub_ix bd.room (px_var 0) px_int) (px_tup (pxs_cons (px_globStr W.c_JOIN.choose_spec) (pxs_cons (px_globStr W.c_MIX.choose_spec) pxs_nil)))) (px_sub_ix bd.room (px_var 0) px_int) (px_tup (pxs_cons (px_sub_ix bd.room (px_var 0) px_int) pxs_nil))))))
theorem sc_size_of : FnScope ["row", "one"] ["row"] (defScope (topS 7)) := ⟨rfl, rfl, rfl, by decide +kernel, rfl, by decide +kernel, by decide +kernel⟩
def size_ofB (self_ : Fun1) : ES :=
    (Y.ret (E.bin addF (E.cst (.int 1)) (E.callB sumF (E.cons (E.comp (I.seq (E.callN parts_ofF (E.cons (E.var 0) E.nil))) (.nm 1) none (E.callN self_ (E.cons (E.var 1) E.nil)) [1]) E.nil))))
def size_ofN : Nat → Fun1
  | 0 => fun _ _ => .err
  | k + 1 => runF 1 2 (size_ofB (size_ofN k))
def size_ofF : Fun1 := size_ofN 202
theorem df_size_of (W : Fx P K mg) {k : Nat} (D_parts_of : Df P w K mg base ⟨K, fns, excM mg⟩ k "parts_of" ["row"] parts_ofF) {self_ : Fun1} (D_size_of : Df P w K mg base ⟨K, fns, excM mg⟩ k "size_of" ["row"] self_) : Df P w K mg base ⟨K, fns, excM mg⟩ (k + 1) "size_of" ["row"] (runF 1 2 (size_ofB self_)) := by
  obtain ⟨f, fd, hm, Fn, hb⟩ := W.f_size_of
  exact df_of (N := ["row", "one"]) (ps := ["row"]) (b := size_ofB self_) Fn sc_size_of hm hb fun cdv A outer s H E L H0 B Xn bd =>
    (psx_one (psx_ret (px_add px_int (px_sum W.b_sum (pxs_cons (px_comp (ownN := [("one", 1)]) (.nm 1) sc_size_of.nd (pix_seq (px_callN D_parts_of bd.room bd.pass (pxs_cons (px_var 0) pxs_nil))) (blkOk_by (by rfl)) (fun _ _ _ _ _ => (pg_nm 1 sc_size_of.nd)) (fun _ _ _ _ _ _ _ _ => trivial) fun _ _ _ _ _ _ _ _ => (px_callN D_size_of bd.room pass_no (pxs_cons (px_var 1) pxs_nil))) pxs_nil)))))
theorem sc_numbers_in : FnScope ["step"] ["step"] (defScope (topS 10)) := ⟨rfl, rfl, rfl, by decide +kernel, rfl, by decide +kernel, by decide +kernel⟩
def numbers_inB : ES :=
    (Y.seq (Y.ite (E.isi .str (E.var 0))
    (Y.ret (E.tup E.nil))
    Y.nop)
    (Y.ret (E.ite (E.bin (eqF false) (E.bin ixF (E.var 0) (E.cst (.int 0))) (E.cst (.str "mix"))) (E.bin ixF (E.var 0) (E.cst (.int 1))) (E.slice (E.var 0) (some (E.cst (.int 1))) none))))
def numbers_inF : Fun1 := runF 1 1 numbers_inB
theorem df_numbers_in (W : Fx P K mg) {k : Nat} : Df P w K mg base ⟨K, fns, excM mg⟩ (k + 1) "numbers_in" ["step"] numbers_inF := by
  obtain ⟨f, fd, hm, Fn, hb⟩ := W.f_numbers_in
  exact df_of (N := ["step"]) (ps := ["step"]) (b := numbers_inB) Fn sc_numbers_in hm hb fun cdv A outer s H E L H0 B Xn bd =>
    (psx_cons (psx_if (ptx_val (px_isi .str (px_var 0) W.b_isinstance W.b_str bt_str))
    (psx_one (psx_ret (px_tup pxs_nil)))
    psx_nil)
    (psx_one (psx_ret (px_ite (ptx_eq bd.room (px_sub_ix bd.room (px_var 0) px_int) px_str) (px_sub_ix bd.room (px_var 0) px_int) (px_slice (px_var 0) px_int trivial)))))
theorem sc_sizes : FnScope ["steps", "found", "step", "k"] ["steps"] (defScope (topS 11)) := ⟨rfl, rfl, rfl, by decide +kernel, rfl, by decide +kernel, by decide +kernel⟩
def sizesB : ES :=
    (Y.seq (Y.asg 1 (E.lst E.nil))
    (Y.seq (Y.for (I.seq (E.var 0)) (.nm 2)
    (Y.append 1 (E.bin addF (E.cst (.int 1)) (E.callB sumF (E.cons (E.comp (I.seq (E.callN numbers_inF (E.cons (E.var 2) E.nil))) (.nm 3) none (E.bin ixF (E.var 1) (E.var 3)) [3]) E.nil)))))
    (Y.ret (E.var 1))))
def sizesF : Fun1 := runF 1 4 sizesB
theorem df_sizes (W : Fx P K mg) {k : Nat} (D_numbers_in : Df P w K mg base ⟨K, fns, excM mg⟩ k "numbers_in" ["step"] numbers_inF) : Df P w K mg base ⟨K, fns, excM mg⟩ (k + 1) "sizes" ["steps"] sizesF := by
  obtain ⟨f, fd, hm, Fn, hb⟩ := W.f_sizes
  exact df_of (N := ["steps", "found", "step", "k"]) (ps := ["steps"]) (b := sizesB) Fn sc_sizes hm hb fun cdv A outer s H E L H0 B Xn bd =>
    (psx_cons (psx_set (i := 1) sc_sizes.nd (px_lst pxs_nil))
    (psx_cons (psx_for (.nm 2) bd.own (pix_seq (px_var 0)) (pg_nm 2 sc_sizes.nd) fun _ =>
    (psx_one (psx_append (i := 1) (px_add px_int (px_sum W.b_sum (pxs_cons (px_comp (ownN := [("k", 3)]) (.nm 3) sc_sizes.nd (pix_seq (px_callN D_numbers_in bd.room bd.pass (pxs_cons (px_var 2) pxs_nil))) (blkOk_by (by rfl)) (fun _ _ _ _ _ => (pg_nm 3 sc_sizes.nd)) (fun _ _ _ _ _ _ _ _ => trivial) fun _ _ _ _ _ _ _ _ => (px_sub_ix bd.room (px_var 1) (px_var 3))) pxs_nil))))))
    (psx_one (psx_ret (px_var 1)))))
theorem sc_needed : FnScope ["steps", "found", "k", "j"] ["steps"] (defScope (topS 13)) := ⟨rfl, rfl, rfl, by decide +kernel, rfl, by decide +kernel, by decide +kernel⟩
def neededB : ES :=
    (Y.seq (Y.asg 1 (E.dict1 (E.bin subF (E.callB lenF (E.cons (E.var 0) E.nil)) (E.cst (.int 1))) (E.cst (.bl true))))
    (Y.seq (Y.for (I.args rng3F (E.cons (E.bin subF (E.callB lenF (E.cons (E.var 0) E.nil)) (E.cst (.int 1))) (E.cons (E.neg (E.cst (.int 1))) (E.cons (E.neg (E.cst (.int 1))) E.nil)))) (.nm 2)
    (Y.ite (E.bin (inF false) (E.var 2) (E.var 1))
    (Y.for (I.seq (E.callN numbers_inF (E.cons (E.bin ixF (E.var 0) (E.var 2)) E.nil))) (.nm 3)
    (Y.dset 1 (E.var 3) (E.cst (.bl true))))
    Y.nop))
    (Y.ret (E.callB sortedF (E.cons (E.var 1) E.nil)))))
def neededF : Fun1 := runF 1 4 neededB
theorem df_needed (W : Fx P K mg) {k : Nat} (D_numbers_in : Df P w K mg base ⟨K, fns, excM mg⟩ k "numbers_in" ["step"] numbers_inF) : Df P w K mg base ⟨K, fns, excM mg⟩ (k + 1) "needed" ["steps"] neededF := by
  obtain ⟨f, fd, hm, Fn, hb⟩ := W.f_needed
  exact df_of (N := ["steps", "found", "k", "j"]) (ps := ["steps"]) (b := neededB) Fn sc_needed hm hb fun cdv A outer s H E L H0 B Xn bd =>
    (psx_cons (psx_set (i := 1) sc_needed.nd (px_dict1 (fun _ _ => (px_sub (px_len W.b_len (pxs_cons (px_var 0) pxs_nil)) px_int)) fun _ _ => px_bl))
    (psx_cons (psx_for (.nm 2) bd.own (pix_range3 W.b_range (pxs_cons (px_sub (px_len W.b_len (pxs_cons (px_var 0) pxs_nil)) px_int) (pxs_cons (px_neg px_int) (pxs_cons (px_neg px_int) pxs_nil)))) (pg_nm 2 sc_needed.nd) fun _ =>
    (psx_one (psx_if (ptx_in bd.room (px_var 2) (px_var 1))
    (psx_one (psx_for (.nm 3) bd.own (pix_seq (px_callN D_numbers_in bd.room bd.pass (pxs_cons (px_sub_ix bd.room (px_var 0) (px_var 2)) pxs_nil))) (pg_nm 3 sc_needed.nd) fun _ =>
    (psx_one (psx_dset (i := 1) bd.room (px_var 3) px_bl))))
    psx_nil)))
    (psx_one (psx_ret (px_sorted W.b_sorted (pxs_cons (px_var 1) pxs_nil))))))
theorem sc_row_of : FnScope ["steps", "found", "k", "step", "j"] ["steps"] (defScope (topS 12)) := ⟨rfl, rfl, rfl, by decide +kernel, rfl, by decide +kernel, by decide +kernel⟩
def row_ofB : ES :=
    (Y.seq (Y.ite (E.bin gtF (E.bin ixF (E.callN sizesF (E.cons (E.var 0) E.nil)) (E.neg (E.cst (.int 1)))) (E.cst (.int 200)))
    (Y.raise 0)
    Y.nop)
    (Y.seq (Y.asg 1 E.dnew)
    (Y.seq (Y.for (I.seq (E.callN neededF (E.cons (E.var 0) E.nil))) (.nm 2)
    (Y.seq (Y.asg 3 (E.bin ixF (E.var 0) (E.var 2)))
    (Y.ite (E.isi .str (E.var 3))
    (Y.dset 1 (E.var 2) (E.var 3))
    (Y.ite (E.bin (inF false) (E.bin ixF (E.var 3) (E.cst (.int 0))) (E.tup (E.cons (E.cst (.str "join")) (E.cons (E.cst (.str "mix")) E.nil))))
    (Y.dset 1 (E.var 2) (E.tup (E.cons (E.bin ixF (E.var 3) (E.cst (.int 0))) (E.cons (E.callB tupleF (E.cons (E.comp (I.seq (E.callN numbers_inF (E.cons (E.var 3) E.nil))) (.nm 4) none (E.bin ixF (E.var 1) (E.var 4)) [4]) E.nil)) E.nil))))
    (Y.dset 1 (E.var 2) (E.tup (E.cons (E.bin ixF (E.var 3) (E.cst (.int 0))) (E.cons (E.bin ixF (E.var 1) (E.bin ixF (E.var 3) (E.cst (.int 1)))) E.nil))))))))
    (Y.ret (E.bin ixF (E.var 1) (E.bin subF (E.callB lenF (E.cons (E.var 0) E.nil)) (E.cst (.int 1))))))))
def row_ofF : Fun1 := runF 1 5 row_ofB
theorem df_row_of (W : Fx P K mg) {k : Nat} (D_needed : Df P w K mg base ⟨K, fns, excM mg⟩ k "needed" ["steps"] neededF) (D_sizes : Df P w K mg base ⟨K, fns, excM mg⟩ k "sizes" ["steps"] sizesF) (D_numbers_in : Df P w K mg base ⟨K, fns, excM mg⟩ k "numbers_in" ["step"] numbers_inF) : Df P w K mg base ⟨K, fns, excM mg⟩ (k + 1) "row_of" ["steps"] row_ofF := by
  obtain ⟨f, fd, hm, Fn, hb⟩ := W.f_row_of
  exact df_of (N := ["steps", "found", "k", "step", "j"]) (ps := ["steps"]) (b := row_ofB) Fn sc_row_of hm hb fun cdv A outer s H E L H0 B Xn bd =>
    (psx_cons (psx_if (ptx_gt (px_sub_ix bd.room (px_callN D_sizes bd.room bd.pass (pxs_cons (px_var 0) pxs_nil)) (px_neg px_int)) (px_globInt W.c_MOST_SIZE.choose_spec))
    (psx_one (psx_raise 0 bd W.x_TooMany.choose_spec.2.1 tt_TooMany W.x_TooMany.choose_spec.1 W.b_super (W.in_TooMany)))
    psx_nil)
    (psx_cons (psx_set (i := 1) sc_row_of.nd px_dnew)
    (psx_cons (psx_for (.nm 2) bd.own (pix_seq (px_callN D_needed bd.room bd.pass (pxs_cons (px_var 0) pxs_nil))) (pg_nm 2 sc_row_of.nd) fun _ =>
    (psx_cons (psx_set (i := 3) sc_row_of.nd (px_sub_ix bd.room (px_var 0) (px_var 2)))
    (psx_one (psx_if (ptx_val (px_isi .str (px_var 3) W.b_isinstance W.b_str bt_str))
    (psx_one (psx_dset (i := 1) bd.room (px_var 2) (px_var 3)))
    (psx_one (psx_if (ptx_in bd.room (px_sub_ix bd.room (px_var 3) px_int) (px_tup (pxs_cons px_str (pxs_cons px_str pxs_nil))))
    (psx_one (psx_dset (i := 1) bd.room (px_var 2) (px_tup (pxs_cons (px_sub_ix bd.room (px_var 3) px_int) (pxs_cons (px_tupleT W.b_tuple (pxs_cons (px_comp (ownN := [("j", 4)]) (.nm 4) sc_row_of.nd (pix_seq (px_callN D_numbers_in bd.room bd.pass (pxs_cons (px_var 3) pxs_nil))) (blkOk_by (by rfl)) (fun _ _ _ _ _ => (pg_nm 4 sc_row_of.nd)) (fun _ _ _ _ _ _ _ _ => trivial) fun _ _ _ _ _ _ _ _ => (px_sub_ix bd.room (px_var 1) (px_var 4))) pxs_nil)) pxs_nil)))))
    (psx_one (psx_dset (i := 1) bd.room (px_var 2) (px_tup (pxs_cons (px_sub_ix bd.room (px_var 3) px_int) (pxs_cons (px_sub_ix bd.room (px_var 1) (px_sub_ix bd.room (px_var 3) px_int)) pxs_nil)))))))))))
    (psx_one (psx_ret (px_sub_ix bd.room (px_var 1) (px_sub (px_len W.b_len (pxs_cons (px_var 0) pxs_nil)) px_int)))))))
theorem sc__law_open_cells : FnScope ["_law_script", "_law_stirred", "_law_cell", "_law_cells"] ["_law_script"] (defScope (topS 15)) := ⟨rfl, rfl, rfl, by decide +kernel, rfl, by decide +kernel, by decide +kernel⟩
--OPEN
theorem ok__law_open_cells (W : Fx P K mg) {k : Nat} : ∃ f fd, mg "_law_open_cells" = some (.ref f) ∧ PySem.W.keepIn K (.ref f) = true ∧ Binds K fd ["_law_script"] [] ∧ FnOk P w K mg base (L2.CX P w) (k + 1) f fd ["_law_script"] (spOpen K) := by
  obtain ⟨f, fd, hm, Fn, hb⟩ := W.f__law_open_cells
  refine ⟨f, fd, hm, Fn.kp, hb, Fun.okX Fn sc__law_open_cells (fun vs H Q E h => ?_) fun cdv A outer s H vs Q E hr h => ?_⟩
  · obtain ⟨a, ns, rfl, _⟩ := h
    rfl
  · obtain ⟨a, ns, rfl, hS, hlen, q⟩ := h
    refine ⟨_, pss_cons (ps_set (i := 1) sc__law_open_cells.nd rfl (.inl rfl) pe_int)
      (pss_cons (ps_for (passes_of rfl) rfl (pi_list (pv 0)) (pg_name (i := 2) sc__law_open_cells.nd rfl (.inl rfl))
        (pss_one (ps_set (i := 1) sc__law_open_cells.nd rfl (.inl rfl) (pe_op op_mod (pe_callTy call_int1 rfl W.b_int bt_int (pa_cons (pe_op op_add (pe_op op_add (pe_op op_mul (pv 1) pe_int) (pe_op op_mul (pv 2) pe_int)) pe_int) pa_nil)) pe_int))))
      (pss_cons (ps_setLc (i := 3) (tt := tYes) (own := [("_law_cell", 2)]) rfl sc__law_open_cells.nd rfl rfl (by rfl) (pi_list (pv 0)) (blkOk_by (by rfl)) (fun _ _ _ _ _ => pg_name (i := 2) sc__law_open_cells.nd rfl (.inl rfl)) (fun _ _ _ _ _ => pts_nil)
        (fun _ _ _ _ _ => pe_callB call_abs rfl W.b_abs bt_abs (pa_cons (pv 2) pa_nil)))
      (pss_one (ps_ret (pe_disp (pps_cons pe_str (pe_revL (pv 3) (pe_un un_neg pe_int)) (pps_cons pe_str pe_int (pps_cons pe_str (pv 1) (pps_cons pe_str pe_int pps_nil)))) rfl rfl (by simp) (by show 4 ≤ 15; omega)))))), ?_⟩
    -- stirred
    refine ⟨.ref a, rfl, a, rfl, ⟨_, hS⟩, ?_⟩
    refine for_list (xs := ns.map V.int) (fun i σ H' => H' = H ∧ ∃ y, σ = [some (.ref a), some (.int (stirP (ns.take i))), y, none]) ⟨rfl, none, rfl⟩ (fun i σ H' _ h => by rw [h.1]; exact hS) (fun i x σ H' hx h => ?_) fun σ H' h => ?_
    · obtain ⟨rfl, y, rfl⟩ := h
      rw [List.getElem?_map] at hx
      obtain ⟨n, hn, rfl⟩ := Option.map_eq_some_iff.mp hx
      have e1 : stirP (ns.take (i + 1)) = (stirP (ns.take i) * 69069 + n * 31 + 5) % 2147483629 := by
        rw [List.take_add_one, hn]
        unfold stirP
        rw [List.foldl_append]
        rfl
      refine ⟨.int (stirP (ns.take i)), rfl, stirP (ns.take i), 69069, rfl, rfl, cmul_r (by omega), .int n, rfl, n, 31, rfl, rfl, cmul_r (by omega), stirP (ns.take i) * 69069, n * 31, rfl, rfl, stirP (ns.take i) * 69069 + n * 31, 5, rfl, rfl, .inl ⟨_, rfl, _, 2147483629, rfl, rfl, by show (0 : Int) < 2147483629; decide, rfl, some (.int n), ?_⟩⟩
      rw [e1]
      rfl
    · obtain ⟨rfl, y, rfl⟩ := h
      rw [List.length_map, List.take_length]
      -- cells
      refine ⟨.ref a, rfl, a, rfl, ⟨_, hS⟩, fun D hD => ?_⟩
      refine lc_list (xs := ns.map V.int) (fun i H2 => Kept H' H2 ∧ H2 D = some (.lst (((ns.take i).map absI).map V.int))) ⟨Kept.upd (.refl _) hD, upd_same⟩ (fun i H2 _ h => sq_keep h.1 hS) (fun i x H2 hx h => ?_) fun H2 h => ?_
      · obtain ⟨k1, k2⟩ := h
        rw [List.getElem?_map] at hx
        obtain ⟨n, hn, rfl⟩ := Option.map_eq_some_iff.mp hx
        have hi : i < ns.length := (List.getElem?_eq_some_iff.mp hn).1
        refine ⟨rfl, ?_⟩
        unfold tYes; dsimp only
        rw [if_pos rfl]
        refine ⟨.int n, rfl, n, rfl, _, k2, ?_, Kept.upd k1 hD, ?_⟩
        · rw [List.length_map, List.length_map, List.length_take]
          exact Nat.lt_of_le_of_lt (Nat.le_trans (Nat.min_le_right _ _) hlen) (by decide)
        · rw [upd_same, List.take_add_one, hn, List.map_append, List.map_append]
          rfl
      · obtain ⟨k1, k2⟩ := h
        rw [List.length_map, List.take_length] at k2
        intro p hp
        have hpD : D ≠ p := ne_of_none k2 hp
        refine ⟨.ref D, rfl, 1, rfl, D, (ns.map absI).map V.int, rfl, rfl, SqL.of (by rw [upd_ne hpD]; exact k2), fun c hc => ?_⟩
        have hcp : p ≠ c := ne_of_none upd_same hc
        refine ⟨.int (stirP ns), rfl, by rw [upd_ne hcp]; exact upd_same, [(.inr sCells, .ref c), (.inr sLeft, .int 1), (.inr sMixed, .int (stirP ns)), (.inr sTurn, .int 0)], rfl, by show 4 ≤ 15; omega, ?_⟩
        refine q _ p c (((k1.upd (k1.none hp)).upd (k1.none (by rw [upd_ne (Ne.symm hcp)] at hc; exact hc))).upd (k1.none hp)) ⟨hcp, upd_same, ?_⟩ (k1.none hp) (k1.none (by rw [upd_ne (Ne.symm hcp)] at hc; exact hc))
        rw [upd_ne (Ne.symm hcp), upd_same, ← List.map_reverse]
        rfl
theorem sc__law_pick : FnScope ["_law_source", "_law_most", "_law_cells", "_law_others", "_law_lap", "_law_stirred"] ["_law_source", "_law_most"] (defScope (topS 16)) := ⟨rfl, rfl, rfl, by decide +kernel, rfl, by decide +kernel, by decide +kernel⟩
--PICK
theorem df__law_pick (W : Fx P K mg) {k : Nat} : Df P w K mg base ⟨K, fns, excM mg⟩ (k + 1) "_law_pick" ["_law_source", "_law_most"] pickF := by
  obtain ⟨f, fd, hm, Fn, hb⟩ := W.f__law_pick
  refine ⟨f, fd, hm, Fn.kp, hb, Fun.okX Fn sc__law_pick (fun vs H Q E h => ?_) fun cdv A outer s H vs Q E hr h => ?_⟩
  · obtain ⟨a, c, m, s, rfl, _⟩ := pick_sp h
    rfl
  · obtain ⟨a, c, m, s0, rfl, hac, hH, q0, q1⟩ := pick_sp h
    refine ⟨_, pss_cons (ps_if (pt_cmpR op_lt (pv 1) pe_int (nomark _)) (pss_one (ps_ret pe_int)) pss_nil)
        (pss_cons (ps_set (i := 2) sc__law_pick.nd rfl (.inl rfl) (pe_dget (hu_of hr) (pv 0) pe_str (fun _ _ => rfl)))
        (pss_cons (ps_while (passes_of rfl) (PW.pt (pw_and (pt_cmpR op_lt (pe_dget (hu_of hr) (pv 0) pe_str (fun _ _ => rfl)) pe_int (nomark _)) (pw_and1 (pt_cmpR op_gt (pe_callB call_len_seq rfl W.b_len bt_len (pa_cons (pv 2) pa_nil)) pe_int (nomark _)))))
          (pss_one (ps_dput (hu_of hr) (pv 0) pe_str (pe_bm0 PySem.F.plainAttrs_list PySem.F.slot_list_pop PySem.F.type_list_pop mt_pop (pv 2)) rfl)))
        (pss_cons (ps_set (i := 3) sc__law_pick.nd rfl (.inl rfl) (pe_dget (hu_of hr) (pv 0) pe_str (fun _ _ => rfl)))
        (pss_cons (ps_if (pt_cmpR op_gt (pv 3) pe_int (nomark _)) (pss_cons (ps_dput (hu_of hr) (pv 0) pe_str (pe_op op_fdiv (pv 3) (pv 1)) rfl) (pss_one (ps_ret (pe_op op_mod (pe_callTy call_int1 rfl W.b_int bt_int (pa_cons (pv 3) pa_nil)) (pv 1))))) pss_nil)
        (pss_cons (ps_dput (hu_of hr) (pv 0) pe_str (pe_op op_add (pe_dget (hu_of hr) (pv 0) pe_str (fun _ _ => rfl)) pe_int) rfl)
        (pss_cons (ps_set (i := 4) sc__law_pick.nd rfl (.inl rfl) (pe_dget (hu_of hr) (pv 0) pe_str (fun _ _ => rfl)))
        (pss_cons (ps_set (i := 5) sc__law_pick.nd rfl (.inl rfl) (pe_op op_mod (pe_callTy call_int1 rfl W.b_int bt_int (pa_cons (pe_op op_add (pe_dget (hu_of hr) (pv 0) pe_str (fun _ _ => rfl)) (pe_op op_mul (pv 4) pe_int)) pa_nil)) pe_int))
        (pss_cons (ps_set (i := 5) sc__law_pick.nd rfl (.inl rfl) (pe_op op_mod (pe_callTy call_int1 rfl W.b_int bt_int (pa_cons (pe_op op_add (pe_op op_mul (pv 5) (pv 5)) (pe_op op_mul (pv 4) pe_int)) pa_nil)) pe_int))
        (pss_one (ps_ret (pe_op op_mod (pe_callTy call_int1 rfl W.b_int bt_int (pa_cons (pe_op op_fdiv (pv 5) pe_int) pa_nil)) (pv 1)))))))))))), ?_⟩
    have hg : ∀ s : Src, DGet (srcH a c H s) a (.str (Str.ofString "left")) (some (.int s.left)) := fun s => get_left
    rw [hH]
    generalize hH0 : srcH a c H s0 = H1 at *
    refine ⟨.int m, rfl, m, 2, rfl, rfl, _, rfl, ite2 (fun e => ?_) fun e => ?_⟩
    · exact hH ▸ q0 (of_decide_eq_true e)
    · have hm2 : ¬ m < 2 := fun z => e (decide_eq_true z)
      obtain ⟨hm6, q⟩ := q1 hm2
      subst hH0
      refine ⟨.ref a, rfl, a, .ref c, rfl, get_cells, ?_⟩
      refine ⟨fun n σ H' => ∃ s : Src, n = s.cells.length ∧ σ = [some (.ref a), some (.int m), some (.ref c), none, none, none] ∧ H' = srcH a c H s ∧ drain s.cells.length s.cells s.left = drain s0.cells.length s0.cells s0.left ∧ s.mixed = s0.mixed ∧ s.turn = s0.turn,
        ⟨_, s0, rfl, rfl, rfl, rfl, rfl, rfl⟩, ?_⟩
      rintro n σ H' ⟨s1, rfl, rfl, rfl, hd, hmx, htn⟩
      refine tAnd_val (b1 := decide (s1.left < 2)) (b2 := decide (0 < s1.cells.length)) (fun Q q => ⟨.ref a, rfl, a, .int s1.left, rfl, get_left, s1.left, 2, rfl, rfl, _, rfl, q⟩)
        (fun Q q => ⟨.ref c, rfl, c, _, rfl, .inl (SqL.of (srcH_c hac)), ((s1.cells.map V.int).length : Nat), 0, rfl, rfl, _, rfl, ?_⟩) (ite2 (fun e => ?_) fun e => ?_)
      · have e1 : decide ((0 : Int) < ((s1.cells.map V.int).length : Nat)) = decide (0 < s1.cells.length) := by
          rw [List.length_map]
          exact decide_eq_decide.mpr (by omega)
        rw [e1]
        exact q
      · rw [Bool.and_eq_true] at e
        have h1 := of_decide_eq_true e.1
        have h2 := of_decide_eq_true e.2
        have hx : s1.cells[s1.cells.length - 1]? = some (s1.cells[s1.cells.length - 1]'(by omega)) := List.getElem?_eq_getElem _
        generalize s1.cells[s1.cells.length - 1]'(by omega) = x at hx
        refine ⟨fun σ' H' => ∃ s : Src, s.cells.length < s1.cells.length ∧ σ' = [some (.ref a), some (.int m), some (.ref c), none, none, none] ∧ H' = srcH a c H s ∧ drain s.cells.length s.cells s.left = drain s0.cells.length s0.cells s0.left ∧ s.mixed = s0.mixed ∧ s.turn = s0.turn,
          fun σ' H' ⟨s2, q1, q2⟩ => ⟨s2.cells.length, q1, s2, rfl, q2⟩, ?_⟩
        refine ⟨.ref c, rfl, .inl ⟨rfl, _, SqL.of (srcH_c hac)⟩, c, s1.cells.map V.int, .int x, rfl, rfl, srcH_c hac, by rw [List.length_map, List.getElem?_map, hx]; rfl, ?_⟩
        rw [← List.map_dropLast, srcH_updC hac]
        refine ⟨.ref a, rfl, a, _, rfl, put_left, ?_⟩
        refine ⟨⟨s1.cells.dropLast, x, s1.mixed, s1.turn⟩, ?_, rfl, rfl, ?_, hmx, htn⟩
        · show s1.cells.dropLast.length < _
          rw [List.length_dropLast]; omega
        · rw [← hd, drain_go h1 hx h2]
      · have hst : drain s0.cells.length s0.cells s0.left = (s1.cells, s1.left) := by
          rw [← hd]
          by_cases h1 : s1.left < 2
          · have h2 : s1.cells = [] := by
              rw [decide_eq_true h1, Bool.true_and] at e
              have e2 : ¬ 0 < s1.cells.length := fun z => e (decide_eq_true z)
              exact List.length_eq_zero_iff.mp (by omega)
            rw [h2]; rfl
          · exact drain_stop h1 _ _
        clear hd e
        obtain ⟨cs, l, mx, tn⟩ := s1
        dsimp only at hmx htn hst
        subst hmx htn
        refine ⟨.ref a, rfl, a, .int l, rfl, get_left, ?_⟩
        refine ⟨.int l, rfl, l, 1, rfl, rfl, _, rfl, ite2 (fun e => ?_) fun e => ?_⟩
        · have h1 : l > 1 := of_decide_eq_true e
          rw [pickP_more hst h1] at q
          exact ⟨.int l, rfl, .int m, rfl, l, m, rfl, rfl, ⟨by omega, by omega⟩, .ref a, rfl, a, _, rfl, put_left, .int l, rfl, .inl ⟨l, rfl, .int m, rfl, l, m, rfl, rfl, by show 0 < m; omega, q⟩⟩
        · have h1 : ¬ l > 1 := fun z => e (decide_eq_true z)
          rw [pickP_last hst h1] at q
          refine ⟨.ref a, rfl, a, .int s0.turn, rfl, get_turn, s0.turn, 1, rfl, rfl, .ref a, rfl, a, _, rfl, put_turn, ?_⟩
          refine ⟨.ref a, rfl, a, .int (s0.turn + 1), rfl, get_turn, ?_⟩
          refine ⟨.ref a, rfl, a, .int s0.mixed, rfl, get_mixed, .int (s0.turn + 1), rfl, s0.turn + 1, 104729, rfl, rfl, cmul_r (by omega), s0.mixed, (s0.turn + 1) * 104729, rfl, rfl, .inl ⟨_, rfl, _, 998244353, rfl, rfl, by show (0 : Int) < 998244353; decide, ?_⟩⟩
          have hb : 0 ≤ (s0.mixed + (s0.turn + 1) * 104729) % 998244353 ∧ (s0.mixed + (s0.turn + 1) * 104729) % 998244353 < 2 ^ 64 := by omega
          refine ⟨_, rfl, _, rfl, _, _, rfl, rfl, cmul_l hb, .int (s0.turn + 1), rfl, s0.turn + 1, 17, rfl, rfl, cmul_r (by omega), _, (s0.turn + 1) * 17, rfl, rfl, .inl ⟨_, rfl, _, 2147483647, rfl, rfl, by show (0 : Int) < 2147483647; decide, ?_⟩⟩
          exact ⟨_, rfl, _, 16, rfl, rfl, ⟨by decide, by decide⟩, .inl ⟨_, rfl, .int m, rfl, _, m, rfl, rfl, by show 0 < m; omega, q⟩⟩
abbrev _law_pickF : Fun1 := pickF
theorem sc__law_draw_steps : FnScope ["_law_source", "_law_letters", "_law_most", "_law_found", "_law_lap", "_law_k", "_law_road", "_law_lot", "_law_turn", "_law_j"] ["_law_source", "_law_letters", "_law_most"] (defScope (topS 17)) := ⟨rfl, rfl, rfl, by decide +kernel, rfl, by decide +kernel, by decide +kernel⟩
def _law_draw_stepsB : ES :=
    (Y.seq (Y.asg 3 (E.lst (E.cons (E.bin ixF (E.var 1) (E.callN _law_pickF (E.cons (E.var 0) (E.cons (E.callB lenF (E.cons (E.var 1) E.nil)) E.nil)))) E.nil)))
    (Y.seq (Y.for (I.args rng1F (E.cons (E.callN _law_pickF (E.cons (E.var 0) (E.cons (E.var 2) E.nil))) E.nil)) (.nm 4)
    (Y.seq (Y.asg2 5 6 (E.callB lenF (E.cons (E.var 3) E.nil)) (E.callN _law_pickF (E.cons (E.var 0) (E.cons (E.cst (.int 6)) E.nil))))
    (Y.ite (E.bin ltF (E.var 6) (E.cst (.int 2)))
    (Y.append 3 (E.bin ixF (E.var 1) (E.callN _law_pickF (E.cons (E.var 0) (E.cons (E.callB lenF (E.cons (E.var 1) E.nil)) E.nil)))))
    (Y.ite (E.bin (eqF false) (E.var 6) (E.cst (.int 2)))
    (Y.append 3 (E.tup (E.cons (E.cst (.str "join")) (E.cons (E.callN _law_pickF (E.cons (E.var 0) (E.cons (E.var 5) E.nil))) (E.cons (E.callN _law_pickF (E.cons (E.var 0) (E.cons (E.var 5) E.nil))) E.nil)))))
    (Y.ite (E.bin (eqF false) (E.var 6) (E.cst (.int 3)))
    (Y.append 3 (E.tup (E.cons (E.bin ixF (E.lst (E.cons (E.cst (.str "right")) (E.cons (E.cst (.str "left")) E.nil))) (E.callN _law_pickF (E.cons (E.var 0) (E.cons (E.cst (.int 2)) E.nil)))) (E.cons (E.callN _law_pickF (E.cons (E.var 0) (E.cons (E.var 5) E.nil))) E.nil))))
    (Y.seq (Y.asg 7 (E.comp (I.args rng1F (E.cons (E.bin addF (E.cst (.int 1)) (E.callN _law_pickF (E.cons (E.var 0) (E.cons (E.cst (.int 3)) E.nil)))) E.nil)) (.nm 8) none (E.callN _law_pickF (E.cons (E.var 0) (E.cons (E.var 5) E.nil))) [8]))
    (Y.append 3 (E.tup (E.cons (E.cst (.str "mix")) (E.cons (E.callB tupleF (E.cons (E.comp (I.args rng1F (E.cons (E.var 5) E.nil)) (.nm 9) (some (E.bin (inF false) (E.var 9) (E.var 7))) (E.var 9) [9]) E.nil)) E.nil))))))))))
    (Y.ret (E.callB tupleF (E.cons (E.var 3) E.nil)))))
def _law_draw_stepsF : Fun1 := runF 3 10 _law_draw_stepsB
theorem df__law_draw_steps (W : Fx P K mg) {k : Nat} (D__law_pick : Df P w K mg base ⟨K, fns, excM mg⟩ k "_law_pick" ["_law_source", "_law_most"] _law_pickF) : Df P w K mg base ⟨K, fns, excM mg⟩ (k + 1) "_law_draw_steps" ["_law_source", "_law_letters", "_law_most"] _law_draw_stepsF := by
  obtain ⟨f, fd, hm, Fn, hb⟩ := W.f__law_draw_steps
  exact df_of (N := ["_law_source", "_law_letters", "_law_most", "_law_found", "_law_lap", "_law_k", "_law_road", "_law_lot", "_law_turn", "_law_j"]) (ps := ["_law_source", "_law_letters", "_law_most"]) (b := _law_draw_stepsB) Fn sc__law_draw_steps hm hb fun cdv A outer s H E L H0 B Xn bd =>
    (psx_cons (psx_set (i := 3) sc__law_draw_steps.nd (px_lst (pxs_cons (px_sub_ix bd.room (px_var 1) (px_callN D__law_pick bd.room bd.pass (pxs_cons (px_var 0) (pxs_cons (px_len W.b_len (pxs_cons (px_var 1) pxs_nil)) pxs_nil)))) pxs_nil)))
    (psx_cons (psx_for (.nm 4) bd.own (pix_range1 W.b_range (pxs_cons (px_callN D__law_pick bd.room bd.pass (pxs_cons (px_var 0) (pxs_cons (px_var 2) pxs_nil))) pxs_nil)) (pg_nm 4 sc__law_draw_steps.nd) fun _ =>
    (psx_cons (psx_asg2 (i := 5) (j := 6) sc__law_draw_steps.nd (px_len W.b_len (pxs_cons (px_var 3) pxs_nil)) (px_callN D__law_pick bd.room bd.pass (pxs_cons (px_var 0) (pxs_cons px_int pxs_nil))) (hg := (pg_tp (pgs_c (pg_nm 5 sc__law_draw_steps.nd) (pgs_c (pg_nm 6 sc__law_draw_steps.nd) pgs_n)))))
    (psx_one (psx_if (ptx_lt (px_var 6) px_int)
    (psx_one (psx_append (i := 3) (px_sub_ix bd.room (px_var 1) (px_callN D__law_pick bd.room bd.pass (pxs_cons (px_var 0) (pxs_cons (px_len W.b_len (pxs_cons (px_var 1) pxs_nil)) pxs_nil))))))
    (psx_one (psx_if (ptx_eq bd.room (px_var 6) px_int)
    (psx_one (psx_append (i := 3) (px_tup (pxs_cons px_str (pxs_cons (px_callN D__law_pick bd.room bd.pass (pxs_cons (px_var 0) (pxs_cons (px_var 5) pxs_nil))) (pxs_cons (px_callN D__law_pick bd.room bd.pass (pxs_cons (px_var 0) (pxs_cons (px_var 5) pxs_nil))) pxs_nil))))))
    (psx_one (psx_if (ptx_eq bd.room (px_var 6) px_int)
    (psx_one (psx_append (i := 3) (px_tup (pxs_cons (px_sub_ix bd.room (px_lst (pxs_cons px_str (pxs_cons px_str pxs_nil))) (px_callN D__law_pick bd.room bd.pass (pxs_cons (px_var 0) (pxs_cons px_int pxs_nil)))) (pxs_cons (px_callN D__law_pick bd.room bd.pass (pxs_cons (px_var 0) (pxs_cons (px_var 5) pxs_nil))) pxs_nil)))))
    (psx_cons (psx_set (i := 7) sc__law_draw_steps.nd (px_comp (ownN := [("_law_turn", 8)]) (.nm 8) sc__law_draw_steps.nd (pix_range1 W.b_range (pxs_cons (px_add px_int (px_callN D__law_pick bd.room bd.pass (pxs_cons (px_var 0) (pxs_cons px_int pxs_nil)))) pxs_nil)) (blkOk_by (by rfl)) (fun _ _ _ _ _ => (pg_nm 8 sc__law_draw_steps.nd)) (fun _ _ _ _ _ _ _ _ => trivial) fun _ _ _ _ _ _ _ _ => (px_callN D__law_pick bd.room pass_no (pxs_cons (px_var 0) (pxs_cons (px_var 5) pxs_nil)))))
    (psx_one (psx_append (i := 3) (px_tup (pxs_cons px_str (pxs_cons (px_tupleT W.b_tuple (pxs_cons (px_comp (ownN := [("_law_j", 9)]) (.nm 9) sc__law_draw_steps.nd (pix_range1 W.b_range (pxs_cons (px_var 5) pxs_nil)) (blkOk_by (by rfl)) (fun _ _ _ _ _ => (pg_nm 9 sc__law_draw_steps.nd)) (fun _ _ _ _ _ _ _ _ => (ptx_in bd.room (px_var 9) (px_var 7))) fun _ _ _ _ _ _ _ _ => (px_var 9)) pxs_nil)) pxs_nil))))))))))))))
    (psx_one (psx_ret (px_tupleT W.b_tuple (pxs_cons (px_var 3) pxs_nil))))))
theorem sc__law_numbers : FnScope ["_law_step"] ["_law_step"] (defScope (topS 18)) := ⟨rfl, rfl, rfl, by decide +kernel, rfl, by decide +kernel, by decide +kernel⟩
def _law_numbersB : ES :=
    (Y.seq (Y.ite (E.isi .str (E.var 0))
    (Y.ret (E.tup E.nil))
    Y.nop)
    (Y.ret (E.ite (E.bin (eqF false) (E.bin ixF (E.var 0) (E.cst (.int 0))) (E.cst (.str "mix"))) (E.bin ixF (E.var 0) (E.cst (.int 1))) (E.slice (E.var 0) (some (E.cst (.int 1))) none))))
def _law_numbersF : Fun1 := runF 1 1 _law_numbersB
theorem df__law_numbers (W : Fx P K mg) {k : Nat} : Df P w K mg base ⟨K, fns, excM mg⟩ (k + 1) "_law_numbers" ["_law_step"] _law_numbersF := by
  obtain ⟨f, fd, hm, Fn, hb⟩ := W.f__law_numbers
  exact df_of (N := ["_law_step"]) (ps := ["_law_step"]) (b := _law_numbersB) Fn sc__law_numbers hm hb fun cdv A outer s H E L H0 B Xn bd =>
    (psx_cons (psx_if (ptx_val (px_isi .str (px_var 0) W.b_isinstance W.b_str bt_str))
    (psx_one (psx_ret (px_tup pxs_nil)))
    psx_nil)
    (psx_one (psx_ret (px_ite (ptx_eq bd.room (px_sub_ix bd.room (px_var 0) px_int) px_str) (px_sub_ix bd.room (px_var 0) px_int) (px_slice (px_var 0) px_int trivial)))))
theorem sc__law_told_row : FnScope ["_law_steps", "_law_rows", "_law_step", "_law_k"] ["_law_steps"] (defScope (topS 19)) := ⟨rfl, rfl, rfl, by decide +kernel, rfl, by decide +kernel, by decide +kernel⟩
def _law_told_rowB : ES :=
    (Y.seq (Y.asg 1 (E.lst E.nil))
    (Y.seq (Y.for (I.seq (E.var 0)) (.nm 2)
    (Y.ite (E.isi .str (E.var 2))
    (Y.append 1 (E.var 2))
    (Y.ite (E.bin (inF false) (E.bin ixF (E.var 2) (E.cst (.int 0))) (E.tup (E.cons (E.cst (.str "join")) (E.cons (E.cst (.str "mix")) E.nil))))
    (Y.append 1 (E.tup (E.cons (E.bin ixF (E.var 2) (E.cst (.int 0))) (E.cons (E.callB tupleF (E.cons (E.comp (I.seq (E.callN _law_numbersF (E.cons (E.var 2) E.nil))) (.nm 3) none (E.bin ixF (E.var 1) (E.var 3)) [3]) E.nil)) E.nil))))
    (Y.append 1 (E.tup (E.cons (E.bin ixF (E.var 2) (E.cst (.int 0))) (E.cons (E.bin ixF (E.var 1) (E.bin ixF (E.var 2) (E.cst (.int 1)))) E.nil)))))))
    (Y.ret (E.bin ixF (E.var 1) (E.neg (E.cst (.int 1)))))))
def _law_told_rowF : Fun1 := runF 1 4 _law_told_rowB
theorem df__law_told_row (W : Fx P K mg) {k : Nat} (D__law_numbers : Df P w K mg base ⟨K, fns, excM mg⟩ k "_law_numbers" ["_law_step"] _law_numbersF) : Df P w K mg base ⟨K, fns, excM mg⟩ (k + 1) "_law_told_row" ["_law_steps"] _law_told_rowF := by
  obtain ⟨f, fd, hm, Fn, hb⟩ := W.f__law_told_row
  exact df_of (N := ["_law_steps", "_law_rows", "_law_step", "_law_k"]) (ps := ["_law_steps"]) (b := _law_told_rowB) Fn sc__law_told_row hm hb fun cdv A outer s H E L H0 B Xn bd =>
    (psx_cons (psx_set (i := 1) sc__law_told_row.nd (px_lst pxs_nil))
    (psx_cons (psx_for (.nm 2) bd.own (pix_seq (px_var 0)) (pg_nm 2 sc__law_told_row.nd) fun _ =>
    (psx_one (psx_if (ptx_val (px_isi .str (px_var 2) W.b_isinstance W.b_str bt_str))
    (psx_one (psx_append (i := 1) (px_var 2)))
    (psx_one (psx_if (ptx_in bd.room (px_sub_ix bd.room (px_var 2) px_int) (px_tup (pxs_cons px_str (pxs_cons px_str pxs_nil))))
    (psx_one (psx_append (i := 1) (px_tup (pxs_cons (px_sub_ix bd.room (px_var 2) px_int) (pxs_cons (px_tupleT W.b_tuple (pxs_cons (px_comp (ownN := [("_law_k", 3)]) (.nm 3) sc__law_told_row.nd (pix_seq (px_callN D__law_numbers bd.room bd.pass (pxs_cons (px_var 2) pxs_nil))) (blkOk_by (by rfl)) (fun _ _ _ _ _ => (pg_nm 3 sc__law_told_row.nd)) (fun _ _ _ _ _ _ _ _ => trivial) fun _ _ _ _ _ _ _ _ => (px_sub_ix bd.room (px_var 1) (px_var 3))) pxs_nil)) pxs_nil)))))
    (psx_one (psx_append (i := 1) (px_tup (pxs_cons (px_sub_ix bd.room (px_var 2) px_int) (pxs_cons (px_sub_ix bd.room (px_var 1) (px_sub_ix bd.room (px_var 2) px_int)) pxs_nil))))))))))
    (psx_one (psx_ret (px_sub_ix bd.room (px_var 1) (px_neg px_int))))))
theorem sc__law_size : FnScope ["_law_steps", "_law_sizes", "_law_step", "_law_k"] ["_law_steps"] (defScope (topS 20)) := ⟨rfl, rfl, rfl, by decide +kernel, rfl, by decide +kernel, by decide +kernel⟩
def _law_sizeB : ES :=
    (Y.seq (Y.asg 1 (E.lst E.nil))
    (Y.seq (Y.for (I.seq (E.var 0)) (.nm 2)
    (Y.append 1 (E.bin addF (E.cst (.int 1)) (E.callB sumF (E.cons (E.comp (I.seq (E.callN _law_numbersF (E.cons (E.var 2) E.nil))) (.nm 3) none (E.bin ixF (E.var 1) (E.var 3)) [3]) E.nil)))))
    (Y.ret (E.bin ixF (E.var 1) (E.neg (E.cst (.int 1)))))))
def _law_sizeF : Fun1 := runF 1 4 _law_sizeB
theorem df__law_size (W : Fx P K mg) {k : Nat} (D__law_numbers : Df P w K mg base ⟨K, fns, excM mg⟩ k "_law_numbers" ["_law_step"] _law_numbersF) : Df P w K mg base ⟨K, fns, excM mg⟩ (k + 1) "_law_size" ["_law_steps"] _law_sizeF := by
  obtain ⟨f, fd, hm, Fn, hb⟩ := W.f__law_size
  exact df_of (N := ["_law_steps", "_law_sizes", "_law_step", "_law_k"]) (ps := ["_law_steps"]) (b := _law_sizeB) Fn sc__law_size hm hb fun cdv A outer s H E L H0 B Xn bd =>
    (psx_cons (psx_set (i := 1) sc__law_size.nd (px_lst pxs_nil))
    (psx_cons (psx_for (.nm 2) bd.own (pix_seq (px_var 0)) (pg_nm 2 sc__law_size.nd) fun _ =>
    (psx_one (psx_append (i := 1) (px_add px_int (px_sum W.b_sum (pxs_cons (px_comp (ownN := [("_law_k", 3)]) (.nm 3) sc__law_size.nd (pix_seq (px_callN D__law_numbers bd.room bd.pass (pxs_cons (px_var 2) pxs_nil))) (blkOk_by (by rfl)) (fun _ _ _ _ _ => (pg_nm 3 sc__law_size.nd)) (fun _ _ _ _ _ _ _ _ => trivial) fun _ _ _ _ _ _ _ _ => (px_sub_ix bd.room (px_var 1) (px_var 3))) pxs_nil))))))
    (psx_one (psx_ret (px_sub_ix bd.room (px_var 1) (px_neg px_int))))))
theorem sc__law_tried : FnScope ["_law_steps"] ["_law_steps"] (defScope (topS 21)) := ⟨rfl, rfl, rfl, by decide +kernel, rfl, by decide +kernel, by decide +kernel⟩
def _law_triedB : ES :=
    (Y.tryR 0 (E.callN row_ofF (E.cons (E.var 0) E.nil)) (E.tup (E.cons (E.cst (.str "too many")) E.nil)))
def _law_triedF : Fun1 := runF 1 1 _law_triedB
theorem df__law_tried (W : Fx P K mg) {k : Nat} (D_row_of : Df P w K mg base ⟨K, fns, excM mg⟩ k "row_of" ["steps"] row_ofF) : Df P w K mg base ⟨K, fns, excM mg⟩ (k + 1) "_law_tried" ["_law_steps"] _law_triedF := by
  obtain ⟨f, fd, hm, Fn, hb⟩ := W.f__law_tried
  exact df_of (N := ["_law_steps"]) (ps := ["_law_steps"]) (b := _law_triedB) Fn sc__law_tried hm hb fun cdv A outer s H E L H0 B Xn bd =>
    (psx_one (psx_tryR 0 bd ⟨rfl, by decide, .inl W.x_TooMany.choose_spec.1⟩ (fun v hv => W.yes_TooMany hv) (fun m v hn hv => W.no_TooMany hn hv) (fun _ _ _ bd => (px_callN D_row_of bd.room bd.pass (pxs_cons (px_var 0) pxs_nil))) fun _ _ _ => (px_tup (pxs_cons px_str pxs_nil))))
theorem sc_law : FnScope ["_law_script", "_law_source", "_law_lap", "_law_grown", "_law_doubled", "_law_chain", "_law_steps", "_law_due", "_law_size_here", "_law_k"] ["_law_script"] (defScope (topS 22)) := ⟨rfl, rfl, rfl, by decide +kernel, rfl, by decide +kernel, by decide +kernel⟩
def lawB : ES :=
    (Y.seq (Y.for (I.args rng1F (E.cons (E.cst (.int 3)) E.nil)) (.nm 2)
    (Y.seq (Y.asg 6 (E.callN _law_draw_stepsF (E.cons (E.var 1) (E.cons (E.cst (.str "abcd")) (E.cons (E.cst (.int 8)) E.nil)))))
    (Y.seq (Y.asg 7 (E.ite (E.bin ltF (E.callN _law_sizeF (E.cons (E.var 6) E.nil)) (E.cst (.int 201))) (E.callN _law_told_rowF (E.cons (E.var 6) E.nil)) (E.tup (E.cons (E.cst (.str "too many")) E.nil))))
    (Y.ite (E.or (E.bin (eqF true) (E.callN _law_triedF (E.cons (E.var 6) E.nil)) (E.var 7)) (E.and (E.bin (eqF true) (E.var 7) (E.tup (E.cons (E.cst (.str "too many")) E.nil))) (E.bin (eqF true) (E.callN size_ofF (E.cons (E.callN row_ofF (E.cons (E.var 6) E.nil)) E.nil)) (E.callN _law_sizeF (E.cons (E.var 6) E.nil)))))
    (Y.ret (E.cst (.bl false)))
    Y.nop))))
    (Y.seq (Y.asg 3 (E.bin addF (E.lst (E.cons (E.cst (.str "a")) E.nil)) (E.comp (I.args rng1F (E.cons (E.callN _law_pickF (E.cons (E.var 1) (E.cons (E.cst (.int 6)) E.nil))) E.nil)) (.nm 9) none (E.tup (E.cons (E.cst (.str "right")) (E.cons (E.var 9) E.nil))) [9])))
    (Y.seq (Y.for (I.args rng1F (E.cons (E.cst (.int 9)) E.nil)) (.nm 2)
    (Y.seq (Y.append 3 (E.tup (E.cons (E.cst (.str "join")) (E.cons (E.bin subF (E.callB lenF (E.cons (E.var 3) E.nil)) (E.cst (.int 1))) (E.cons (E.bin subF (E.bin subF (E.callB lenF (E.cons (E.var 3) E.nil)) (E.cst (.int 1))) (E.bin modF (E.callN _law_pickF (E.cons (E.var 1) (E.cons (E.cst (.int 2)) E.nil))) (E.callB lenF (E.cons (E.var 3) E.nil)))) E.nil)))))
    (Y.seq (Y.asg 6 (E.callB tupleF (E.cons (E.var 3) E.nil)))
    (Y.seq (Y.asg 8 (E.callN _law_sizeF (E.cons (E.var 6) E.nil)))
    (Y.seq (Y.ite (E.or (E.bin (eqF true) (E.bin (eqF false) (E.callN _law_triedF (E.cons (E.var 6) E.nil)) (E.tup (E.cons (E.cst (.str "too many")) E.nil))) (E.bin gtF (E.var 8) (E.cst (.int 200)))) (E.and (E.bin ltF (E.var 8) (E.cst (.int 201))) (E.bin (eqF true) (E.callN row_ofF (E.cons (E.var 6) E.nil)) (E.callN _law_told_rowF (E.cons (E.var 6) E.nil)))))
    (Y.ret (E.cst (.bl false)))
    Y.nop)
    (Y.ite (E.bin (eqF true) (E.callN _law_triedF (E.cons (E.bin addF (E.var 6) (E.tup (E.cons (E.cst (.str "b")) (E.cons (E.tup (E.cons (E.cst (.str "left")) (E.cons (E.callB lenF (E.cons (E.var 6) E.nil)) E.nil))) E.nil)))) E.nil)) (E.tup (E.cons (E.cst (.str "left")) (E.cons (E.cst (.str "b")) E.nil))))
    (Y.ret (E.cst (.bl false)))
    Y.nop))))))
    (Y.seq (Y.asg 4 (E.callB tupleF (E.cons (E.bin addF (E.lst (E.cons (E.cst (.str "a")) E.nil)) (E.comp (I.args rng1F (E.cons (E.bin addF (E.cst (.int 40)) (E.callN _law_pickF (E.cons (E.var 1) (E.cons (E.cst (.int 20)) E.nil)))) E.nil)) (.nm 9) none (E.tup (E.cons (E.cst (.str "join")) (E.cons (E.var 9) (E.cons (E.var 9) E.nil)))) [9])) E.nil)))
    (Y.seq (Y.ite (E.or (E.bin (eqF true) (E.callN _law_triedF (E.cons (E.var 4) E.nil)) (E.tup (E.cons (E.cst (.str "too many")) E.nil))) (E.bin (eqF true) (E.callN _law_triedF (E.cons (E.bin addF (E.var 4) (E.tup (E.cons (E.cst (.str "b")) E.nil))) E.nil)) (E.cst (.str "b"))))
    (Y.ret (E.cst (.bl false)))
    Y.nop)
    (Y.seq (Y.asg 5 (E.callB tupleF (E.cons (E.bin addF (E.lst (E.cons (E.cst (.str "a")) E.nil)) (E.comp (I.args rng1F (E.cons (E.cst (.int 199)) E.nil)) (.nm 9) none (E.tup (E.cons (E.cst (.str "left")) (E.cons (E.var 9) E.nil))) [9])) E.nil)))
    (Y.ret (E.and (E.bin (eqF false) (E.callN size_ofF (E.cons (E.callN row_ofF (E.cons (E.var 5) E.nil)) E.nil)) (E.cst (.int 200))) (E.bin (eqF false) (E.callN _law_triedF (E.cons (E.bin addF (E.var 5) (E.tup (E.cons (E.tup (E.cons (E.cst (.str "right")) (E.cons (E.cst (.int 199)) E.nil))) E.nil))) E.nil)) (E.tup (E.cons (E.cst (.str "too many")) E.nil)))))))))))
theorem ok_law (W : Fx P K mg) {k : Nat} (op : ∃ fo fdo, mg "_law_open_cells" = some (.ref fo) ∧ PySem.W.keepIn K (.ref fo) = true ∧ Binds K fdo ["_law_script"] [] ∧ FnOk P w K mg base (L2.CX P w) k fo fdo ["_law_script"] (spOpen K)) (D__law_draw_steps : Df P w K mg base ⟨K, fns, excM mg⟩ k "_law_draw_steps" ["_law_source", "_law_letters", "_law_most"] _law_draw_stepsF) (D__law_size : Df P w K mg base ⟨K, fns, excM mg⟩ k "_law_size" ["_law_steps"] _law_sizeF) (D__law_told_row : Df P w K mg base ⟨K, fns, excM mg⟩ k "_law_told_row" ["_law_steps"] _law_told_rowF) (D__law_tried : Df P w K mg base ⟨K, fns, excM mg⟩ k "_law_tried" ["_law_steps"] _law_triedF) (D_size_of : Df P w K mg base ⟨K, fns, excM mg⟩ k "size_of" ["row"] size_ofF) (D_row_of : Df P w K mg base ⟨K, fns, excM mg⟩ k "row_of" ["steps"] row_ofF) (D__law_pick : Df P w K mg base ⟨K, fns, excM mg⟩ k "_law_pick" ["_law_source", "_law_most"] _law_pickF) {f : Addr} {fd : FuncData} (Fn : Fun K "law" "law" (topS 22) f fd) : FnOk P w K mg base (L2.CX P w) (k + 1) f fd ["_law_script"] (spLaw K 10 lawB) :=
  ok_lawX (g := ⟨K, fns, excM mg⟩) (b := lawB) Fn sc_law rfl op rfl rfl (by first | exact Or.inl rfl | exact Or.inr (Or.inl rfl)) (by first | exact Or.inl rfl | exact Or.inr rfl) fun cdv A outer s H E L H0 B Xn bd =>
    (psx_cons (psx_for (.nm 2) bd.own (pix_range1 W.b_range (pxs_cons px_int pxs_nil)) (pg_nm 2 sc_law.nd) fun _ =>
    (psx_cons (psx_set (i := 6) sc_law.nd (px_callN D__law_draw_steps bd.room bd.pass (pxs_cons (px_var 1) (pxs_cons px_str (pxs_cons px_int pxs_nil)))))
    (psx_cons (psx_set (i := 7) sc_law.nd (px_ite (ptx_lt (px_callN D__law_size bd.room bd.pass (pxs_cons (px_var 6) pxs_nil)) px_int) (px_callN D__law_told_row bd.room bd.pass (pxs_cons (px_var 6) pxs_nil)) (px_tup (pxs_cons px_str pxs_nil))))
    (psx_one (psx_if (PWX.pt (pwx_or (ptx_ne bd.room (px_callN D__law_tried bd.room bd.pass (pxs_cons (px_var 6) pxs_nil)) (px_var 7)) (pwx_or1 (PWX.pt (pwx_and (ptx_ne bd.room (px_var 7) (px_tup (pxs_cons px_str pxs_nil))) (pwx_and1 (ptx_ne bd.room (px_callN D_size_of bd.room bd.pass (pxs_cons (px_callN D_row_of bd.room bd.pass (pxs_cons (px_var 6) pxs_nil)) pxs_nil)) (px_callN D__law_size bd.room bd.pass (pxs_cons (px_var 6) pxs_nil)))))))))
    (psx_one (psx_ret px_bl))
    psx_nil)))))
    (psx_cons (psx_set (i := 3) sc_law.nd (px_add (px_lst (pxs_cons px_str pxs_nil)) (px_comp (ownN := [("_law_k", 9)]) (.nm 9) sc_law.nd (pix_range1 W.b_range (pxs_cons (px_callN D__law_pick bd.room bd.pass (pxs_cons (px_var 1) (pxs_cons px_int pxs_nil))) pxs_nil)) (blkOk_by (by rfl)) (fun _ _ _ _ _ => (pg_nm 9 sc_law.nd)) (fun _ _ _ _ _ _ _ _ => trivial) fun _ _ _ _ _ _ _ _ => (px_tup (pxs_cons px_str (pxs_cons (px_var 9) pxs_nil))))))
    (psx_cons (psx_for (.nm 2) bd.own (pix_range1 W.b_range (pxs_cons px_int pxs_nil)) (pg_nm 2 sc_law.nd) fun _ =>
    (psx_cons (psx_append (i := 3) (px_tup (pxs_cons px_str (pxs_cons (px_sub (px_len W.b_len (pxs_cons (px_var 3) pxs_nil)) px_int) (pxs_cons (px_sub (px_sub (px_len W.b_len (pxs_cons (px_var 3) pxs_nil)) px_int) (px_mod (px_callN D__law_pick bd.room bd.pass (pxs_cons (px_var 1) (pxs_cons px_int pxs_nil))) (px_len W.b_len (pxs_cons (px_var 3) pxs_nil)))) pxs_nil)))))
    (psx_cons (psx_set (i := 6) sc_law.nd (px_tupleT W.b_tuple (pxs_cons (px_var 3) pxs_nil)))
    (psx_cons (psx_set (i := 8) sc_law.nd (px_callN D__law_size bd.room bd.pass (pxs_cons (px_var 6) pxs_nil)))
    (psx_cons (psx_if (PWX.pt (pwx_or (ptx_ne bd.room (px_eq bd.room (px_callN D__law_tried bd.room bd.pass (pxs_cons (px_var 6) pxs_nil)) (px_tup (pxs_cons px_str pxs_nil))) (px_gt (px_var 8) px_int)) (pwx_or1 (PWX.pt (pwx_and (ptx_lt (px_var 8) px_int) (pwx_and1 (ptx_ne bd.room (px_callN D_row_of bd.room bd.pass (pxs_cons (px_var 6) pxs_nil)) (px_callN D__law_told_row bd.room bd.pass (pxs_cons (px_var 6) pxs_nil)))))))))
    (psx_one (psx_ret px_bl))
    psx_nil)
    (psx_one (psx_if (ptx_ne bd.room (px_callN D__law_tried bd.room bd.pass (pxs_cons (px_add (px_var 6) (px_tup (pxs_cons px_str (pxs_cons (px_tup (pxs_cons px_str (pxs_cons (px_len W.b_len (pxs_cons (px_var 6) pxs_nil)) pxs_nil))) pxs_nil)))) pxs_nil)) (px_tup (pxs_cons px_str (pxs_cons px_str pxs_nil))))
    (psx_one (psx_ret px_bl))
    psx_nil)))))))
    (psx_cons (psx_set (i := 4) sc_law.nd (px_tupleT W.b_tuple (pxs_cons (px_add (px_lst (pxs_cons px_str pxs_nil)) (px_comp (ownN := [("_law_k", 9)]) (.nm 9) sc_law.nd (pix_range1 W.b_range (pxs_cons (px_add px_int (px_callN D__law_pick bd.room bd.pass (pxs_cons (px_var 1) (pxs_cons px_int pxs_nil)))) pxs_nil)) (blkOk_by (by rfl)) (fun _ _ _ _ _ => (pg_nm 9 sc_law.nd)) (fun _ _ _ _ _ _ _ _ => trivial) fun _ _ _ _ _ _ _ _ => (px_tup (pxs_cons px_str (pxs_cons (px_var 9) (pxs_cons (px_var 9) pxs_nil)))))) pxs_nil)))
    (psx_cons (psx_if (PWX.pt (pwx_or (ptx_ne bd.room (px_callN D__law_tried bd.room bd.pass (pxs_cons (px_var 4) pxs_nil)) (px_tup (pxs_cons px_str pxs_nil))) (pwx_or1 (ptx_ne bd.room (px_callN D__law_tried bd.room bd.pass (pxs_cons (px_add (px_var 4) (px_tup (pxs_cons px_str pxs_nil))) pxs_nil)) px_str))))
    (psx_one (psx_ret px_bl))
    psx_nil)
    (psx_cons (psx_set (i := 5) sc_law.nd (px_tupleT W.b_tuple (pxs_cons (px_add (px_lst (pxs_cons px_str pxs_nil)) (px_comp (ownN := [("_law_k", 9)]) (.nm 9) sc_law.nd (pix_range1 W.b_range (pxs_cons px_int pxs_nil)) (blkOk_by (by rfl)) (fun _ _ _ _ _ => (pg_nm 9 sc_law.nd)) (fun _ _ _ _ _ _ _ _ => trivial) fun _ _ _ _ _ _ _ _ => (px_tup (pxs_cons px_str (pxs_cons (px_var 9) pxs_nil))))) pxs_nil)))
    (psx_one (psx_ret (px_and (px_eq bd.room (px_callN D_size_of bd.room bd.pass (pxs_cons (px_callN D_row_of bd.room bd.pass (pxs_cons (px_var 5) pxs_nil)) pxs_nil)) px_int) (px_one (px_eq bd.room (px_callN D__law_tried bd.room bd.pass (pxs_cons (px_add (px_var 5) (px_tup (pxs_cons (px_tup (pxs_cons px_str (pxs_cons px_int pxs_nil))) pxs_nil))) pxs_nil)) (px_tup (pxs_cons px_str pxs_nil)))))))))))))
end
end K32
set_option Elab.async false
set_option linter.all false
set_option maxRecDepth 100000
namespace K32
open PySem L2 EV

/-- an entry of steps -/
inductive Stp where
  | lt (c : Str) | jn (i j : Nat) | rt (i : Nat) | lf (i : Nat) | mx (ks : List Nat)
def enc : Stp → PV
  | .lt c => .str c
  | .jn i j => .tup [.str "join", nI i, nI j]
  | .rt i => .tup [.str "right", nI i]
  | .lf i => .tup [.str "left", nI i]
  | .mx ks => .tup [.str "mix", .tup (ks.map nI)]
def nums : Stp → List Nat
  | .lt _ => []
  | .jn i j => [i, j]
  | .rt i => [i]
  | .lf i => [i]
  | .mx ks => ks
@[simp] theorem ok_join : PyData.strOk ("join" : Str) = true := by decide +kernel
@[simp] theorem ok_right : PyData.strOk ("right" : Str) = true := by decide +kernel
@[simp] theorem ok_left : PyData.strOk ("left" : Str) = true := by decide +kernel
@[simp] theorem ok_mix : PyData.strOk ("mix" : Str) = true := by decide +kernel
@[simp] theorem q_join_join : ((("join" : Str)) == ("join" : Str)) = true := by decide +kernel
@[simp] theorem q_join_right : ((("join" : Str)) == ("right" : Str)) = false := by decide +kernel
@[simp] theorem q_join_left : ((("join" : Str)) == ("left" : Str)) = false := by decide +kernel
@[simp] theorem q_join_mix : ((("join" : Str)) == ("mix" : Str)) = false := by decide +kernel
@[simp] theorem q_right_join : ((("right" : Str)) == ("join" : Str)) = false := by decide +kernel
@[simp] theorem q_right_right : ((("right" : Str)) == ("right" : Str)) = true := by decide +kernel
@[simp] theorem q_right_left : ((("right" : Str)) == ("left" : Str)) = false := by decide +kernel
@[simp] theorem q_right_mix : ((("right" : Str)) == ("mix" : Str)) = false := by decide +kernel
@[simp] theorem q_left_join : ((("left" : Str)) == ("join" : Str)) = false := by decide +kernel
@[simp] theorem q_left_right : ((("left" : Str)) == ("right" : Str)) = false := by decide +kernel
@[simp] theorem q_left_left : ((("left" : Str)) == ("left" : Str)) = true := by decide +kernel
@[simp] theorem q_left_mix : ((("left" : Str)) == ("mix" : Str)) = false := by decide +kernel
@[simp] theorem q_mix_join : ((("mix" : Str)) == ("join" : Str)) = false := by decide +kernel
@[simp] theorem q_mix_right : ((("mix" : Str)) == ("right" : Str)) = false := by decide +kernel
@[simp] theorem q_mix_left : ((("mix" : Str)) == ("left" : Str)) = false := by decide +kernel
@[simp] theorem q_mix_mix : ((("mix" : Str)) == ("mix" : Str)) = true := by decide +kernel
theorem numbers_in_ok (st : Stp) (s : Src) : numbers_inF [enc st] s = .ok (.tup ((nums st).map nI), s) := by
  cases st <;> simp [numbers_inF, numbers_inB, enc, nums, isT, ixF, atI, ixN, eqF_str, E.part, slF, cutP, HT.sIx]
theorem law_numbers_ok (st : Stp) (s : Src) : _law_numbersF [enc st] s = .ok (.tup ((nums st).map nI), s) := by
  cases st <;> simp [_law_numbersF, _law_numbersB, enc, nums, isT, ixF, atI, ixN, eqF_str, E.part, slF, cutP, HT.sIx]
end K32
set_option Elab.async false
set_option linter.all false
set_option maxRecDepth 100000
namespace K32
open PySem L2 EV

def szOf (zs : List Nat) (st : Stp) : Nat := 1 + ((nums st).map fun n => zs.getD n 0).sum
def rwOf (rs : List PV) : Stp → PV
  | .lt c => .str c
  | .jn i j => .tup [.str "join", .tup [rs.getD i .non, rs.getD j .non]]
  | .rt i => .tup [.str "right", rs.getD i .non]
  | .lf i => .tup [.str "left", rs.getD i .non]
  | .mx ks => .tup [.str "mix", .tup (ks.map fun k => rs.getD k .non)]
def acc {α : Type} (f : List α → Stp → α) : List α → List Stp → List α
  | zs, [] => zs
  | zs, st :: ss => acc f (zs ++ [f zs st]) ss
def wfAt (k : Nat) (st : Stp) : Prop := ∀ n ∈ nums st, n < k
def wfs : Nat → List Stp → Prop
  | _, [] => True
  | k, st :: ss => wfAt k st ∧ wfs (k + 1) ss
/-! ### sizes -/
theorem size_step {numF : Fun1} (hnum : ∀ st s, numF [enc st] s = .ok (.tup ((nums st).map nI), s)) (st : Stp) (zs : List Nat) (a : Slot) (s : Src) (hw : wfAt zs.length st) (hl : zs.length < 1000) :
    Y.append 1 (E.bin addF (E.cst (.int 1)) (E.callB sumF (E.cons (E.comp (I.seq (E.callN numF (E.cons (E.var 2) E.nil))) (.nm 3) none (E.bin ixF (E.var 1) (E.var 3)) [3]) E.nil))) [a, some (.lst (zs.map nI), true), some (enc st, false), none] s
      = .ok (.nx, [a, some (.lst ((zs ++ [szOf zs st]).map nI), true), some (enc st, false), none], s) := by
  have hc : E.comp (I.seq (E.callN numF (E.cons (E.var 2) E.nil))) (.nm 3) none (E.bin ixF (E.var 1) (E.var 3)) [3] [a, some (.lst (zs.map nI), true), some (enc st, false), none] s = .ok (.lst (((nums st).map nI).map fun z => match z with | .int n => nI (zs.getD n.toNat 0) | _ => .non), .fr, s) := by
    refine comp_seq (x := .tup ((nums st).map nI)) (t := .cl) (by simp [hnum]) rfl rfl pl_none fun z hz => ?_
    obtain ⟨n, hn, rfl⟩ := List.mem_map.mp hz
    have hi : (zs.map nI)[n]? = some (nI (zs.getD n 0)) := by
      rw [List.getElem?_map, List.getElem?_eq_getElem (hw n hn), List.getD_eq_getElem?_getD, List.getElem?_eq_getElem (hw n hn)]
      rfl
    refine ⟨.cl, ?_, rfl⟩
    have e := ixF_lst (t := Tag.own 1) (t' := Tag.cl) hi
    simp [wipeP]
    unfold nI at e ⊢
    rw [e]
    rfl
  have em : ((nums st).map nI).map (fun z => match z with | .int n => nI (zs.getD n.toNat 0) | _ => .non) = ((nums st).map fun n => zs.getD n 0).map nI := by
    rw [List.map_map, List.map_map]
    rfl
  rw [em] at hc
  have h2 : zs.length < sizeLine := small_lt (by omega)
  unfold szOf
  generalize (nums st).map (fun n => zs.getD n 0) = ms at hc ⊢
  simp [hc, lstAt, sumF_nI, h2]
  simp [nI]
theorem size_loop {b : ES} {a : Slot} {s : Src} (hb : ∀ st zs, wfAt (List.length zs) st → zs.length < 1000 → b [a, some (.lst (zs.map nI), true), some (enc st, false), none] s = .ok (.nx, [a, some (.lst ((zs ++ [szOf zs st]).map nI), true), some (enc st, false), none], s)) :
    ∀ (ss : List Stp) (zs : List Nat) (sl : Slot), pl sl → wfs zs.length ss → zs.length + ss.length ≤ 1000 → ∃ sl', pl sl' ∧ forGo (.nm 2) b (ss.map enc) [a, some (.lst (zs.map nI), true), sl, none] s = .ok (.nx, [a, some (.lst ((acc szOf zs ss).map nI), true), sl', none], s)
  | [], zs, sl, hp, _, _ => ⟨sl, hp, rfl⟩
  | st :: ss, zs, sl, hp, hw, hl => by
    rw [List.length_cons] at hl
    obtain ⟨sl', hp', e⟩ := size_loop hb ss (zs ++ [szOf zs st]) (some (enc st, false)) (pl_some _) (by rw [List.length_append]; exact hw.2) (by rw [List.length_append, List.length_singleton]; omega)
    refine ⟨sl', hp', ?_⟩
    rw [List.map_cons]
    unfold forGo
    rw [set_nm (enc st) (sl := sl) rfl hp]
    dsimp only [List.set]
    rw [hb st zs hw.1 (by omega)]
    exact e
def encs (ss : List Stp) : PV := .tup (ss.map enc)
def sizes (ss : List Stp) : List Nat := acc szOf [] ss
theorem sizes_ok (ss : List Stp) (s : Src) (hw : wfs 0 ss) (hl : ss.length ≤ 1000) : sizesF [encs ss] s = .ok (.lst ((sizes ss).map nI), s) := by
  obtain ⟨sl', hp, e⟩ := size_loop (a := some (encs ss, false)) (s := s) (fun st zs h1 h2 => size_step numbers_in_ok st zs _ s h1 h2) ss [] none pl_none hw (by simpa using hl)
  unfold sizesF sizesB
  simp [Y.for, I.seq, encs, seqF, frzP]
  simp [encs] at e
  rw [e]
  rfl
theorem law_size_ok (ss : List Stp) (s : Src) (z : Nat) (hw : wfs 0 ss) (hl : ss.length ≤ 1000) (hz : (sizes ss).getLast? = some z) : _law_sizeF [encs ss] s = .ok (nI z, s) := by
  obtain ⟨sl', hp, e⟩ := size_loop (a := some (encs ss, false)) (s := s) (fun st zs h1 h2 => size_step law_numbers_ok st zs _ s h1 h2) ss [] none pl_none hw (by simpa using hl)
  unfold _law_sizeF _law_sizeB
  simp [Y.for, I.seq, encs, seqF, frzP]
  simp [encs] at e
  rw [e]
  obtain ⟨ys, hy⟩ := List.getLast?_eq_some_iff.mp hz
  unfold sizes at hy
  rw [hy, List.map_append]
  have e2 := ixF_last (xs := ys.map nI) (z := nI z) (t := .own 1) (t' := .cl)
  simp [e2]

/-! ### the row that is told -/
theorem getD_at {α : Type} {xs : List α} {i : Nat} {d : α} (h : i < xs.length) : xs[i]? = some (xs.getD i d) := by
  rw [List.getD_eq_getElem?_getD, List.getElem?_eq_getElem h]; rfl
theorem rows_comp {numF : Fun1} {i j k : Nat} {ρ : EnvP} {s : Src} {st : Stp} {rs : List PV} (hnum : ∀ st s, numF [enc st] s = .ok (.tup ((nums st).map nI), s)) (hi : ρ[i]? = some (some (enc st, false))) (hk : ρ[k]? = some none)
    (hg : ∀ n ∈ nums st, ∃ tg, E.bin ixF (E.var j) (E.var k) ((wipeP ρ [k]).set k (some (nI n, false))) s = .ok (rs.getD n .non, tg, s) ∧ tg.clean = true) :
    E.comp (I.seq (E.callN numF (E.cons (E.var i) E.nil))) (.nm k) none (E.bin ixF (E.var j) (E.var k)) [k] ρ s = .ok (.lst ((nums st).map fun n => rs.getD n .non), .fr, s) := by
  have h := comp_seq (a := E.callN numF (E.cons (E.var i) E.nil)) (f := E.bin ixF (E.var j) (E.var k)) (x := .tup ((nums st).map nI)) (t := .cl) (s := s) (s1 := s) (ρ := ρ) (c := none) (g := fun z => match z with | .int n => rs.getD n.toNat .non | _ => .non)
    (by simp [hi, hnum]) rfl hk pl_none fun z hz => by
      obtain ⟨n, hn, rfl⟩ := List.mem_map.mp hz
      obtain ⟨tg, e, ht⟩ := hg n hn
      exact ⟨tg, e, by rw [ht]; rfl⟩
  rw [List.map_map] at h
  exact h
theorem in_jm {o : Str} {b : Bool} {t t' : Tag} (h1 : (shP (.str o) && SeqAt.shaped (.list (toDs [.str "join", .str "mix"]))) = true) (h2 : ([PV.str "join", PV.str "mix"].any fun z => eqP z (.str o)) = b) : inF false (.str o) t (.tup [.str "join", .str "mix"]) t' = some (.bl b, .cl) := by
  unfold inF
  dsimp only
  rw [if_pos h1, h2]
  cases b <;> rfl
@[simp] theorem in_jm_join {t t' : Tag} : inF false (.str "join") t (.tup [.str "join", .str "mix"]) t' = some (.bl true, .cl) := in_jm (by decide +kernel) (by decide +kernel)
@[simp] theorem in_jm_mix {t t' : Tag} : inF false (.str "mix") t (.tup [.str "join", .str "mix"]) t' = some (.bl true, .cl) := in_jm (by decide +kernel) (by decide +kernel)
@[simp] theorem in_jm_right {t t' : Tag} : inF false (.str "right") t (.tup [.str "join", .str "mix"]) t' = some (.bl false, .cl) := in_jm (by decide +kernel) (by decide +kernel)
@[simp] theorem in_jm_left {t t' : Tag} : inF false (.str "left") t (.tup [.str "join", .str "mix"]) t' = some (.bl false, .cl) := in_jm (by decide +kernel) (by decide +kernel)
theorem told_step (st : Stp) (rs : List PV) (a : Slot) (s : Src) (hw : wfAt rs.length st) (hf : flats rs = true) (hl : rs.length < 1000) :
    (Y.ite (E.isi .str (E.var 2))
    (Y.append 1 (E.var 2))
    (Y.ite (E.bin (inF false) (E.bin ixF (E.var 2) (E.cst (.int 0))) (E.tup (E.cons (E.cst (.str "join")) (E.cons (E.cst (.str "mix")) E.nil))))
    (Y.append 1 (E.tup (E.cons (E.bin ixF (E.var 2) (E.cst (.int 0))) (E.cons (E.callB tupleF (E.cons (E.comp (I.seq (E.callN _law_numbersF (E.cons (E.var 2) E.nil))) (.nm 3) none (E.bin ixF (E.var 1) (E.var 3)) [3]) E.nil)) E.nil))))
    (Y.append 1 (E.tup (E.cons (E.bin ixF (E.var 2) (E.cst (.int 0))) (E.cons (E.bin ixF (E.var 1) (E.bin ixF (E.var 2) (E.cst (.int 1)))) E.nil)))))) [a, some (.lst rs, true), some (enc st, false), none] s
      = .ok (.nx, [a, some (.lst (rs ++ [rwOf rs st]), true), some (enc st, false), none], s) := by
  have h2 : rs.length < sizeLine := small_lt (by omega)
  have hc := rows_comp (numF := _law_numbersF) (i := 2) (j := 1) (k := 3) (ρ := [a, some (.lst rs, true), some (enc st, false), none]) (s := s) (st := st) (rs := rs) law_numbers_ok rfl rfl fun n hn => by
    refine ⟨.cl, ?_, rfl⟩
    have e := ixF_lst (t := Tag.own 1) (t' := Tag.cl) (getD_at (d := .non) (hw n hn))
    simp [wipeP]
    unfold nI
    rw [e]
    rfl
  have s2 : (2 : Nat) ≤ sizeLine := small_le (by omega)
  have e0 : ∀ (o : Str) (p : List PV) (t : Tag), ixF (.tup (.str o :: p)) t (.int 0) .cl = some (.str o, t.item) := fun o p t => ixF_tup (k := 0) rfl
  cases st with
  | lt c => simp [enc, rwOf, isT, lstAt, h2]
  | jn i j =>
    simp [enc, nums] at hc
    simp [enc, rwOf, isT, lstAt, h2, e0, s2, hc, tupleF, dispTag]
  | mx ks =>
    simp [enc, nums] at hc
    simp [enc, rwOf, isT, lstAt, h2, e0, s2, hc, tupleF, dispTag]
  | rt i =>
    have hi := ixF_lst (t := Tag.own 1) (t' := Tag.cl) (getD_at (d := .non) (hw i (by simp [nums])))
    have e1 : ∀ (t : Tag), ixF (.tup [.str "right", nI i]) t (.int 1) .cl = some (nI i, t.item) := fun t => ixF_tup (k := 1) rfl
    simp only [nI] at e1
    simp [enc, rwOf, isT, lstAt, h2, e0, s2, tupleF, dispTag, nI, e1, hi]
  | lf i =>
    have hi := ixF_lst (t := Tag.own 1) (t' := Tag.cl) (getD_at (d := .non) (hw i (by simp [nums])))
    have e1 : ∀ (t : Tag), ixF (.tup [.str "left", nI i]) t (.int 1) .cl = some (nI i, t.item) := fun t => ixF_tup (k := 1) rfl
    simp only [nI] at e1
    simp [enc, rwOf, isT, lstAt, h2, e0, s2, tupleF, dispTag, nI, e1, hi]

theorem flat_getD {rs : List PV} (h : flats rs = true) (n : Nat) : flat (rs.getD n .non) = true := by
  rw [List.getD_eq_getElem?_getD]
  cases e : rs[n]? with
  | none => rfl
  | some x => exact flat_of h x (List.mem_of_getElem? e)
theorem flat_rwOf {rs : List PV} (h : flats rs = true) (st : Stp) : flat (rwOf rs st) = true := by
  cases st with
  | lt c => rfl
  | jn i j =>
    unfold rwOf
    rw [ev_ftup, ev_fs1, ev_fs1, ev_ftup, ev_fs1, ev_fs1, flat_getD h, flat_getD h]
    rfl
  | rt i =>
    unfold rwOf
    rw [ev_ftup, ev_fs1, ev_fs1, flat_getD h]
    rfl
  | lf i =>
    unfold rwOf
    rw [ev_ftup, ev_fs1, ev_fs1, flat_getD h]
    rfl
  | mx ks =>
    unfold rwOf
    rw [ev_ftup, ev_fs1, ev_fs1, ev_ftup, flats_all fun x hx => ?_]
    · rfl
    · obtain ⟨k, _, rfl⟩ := List.mem_map.mp hx
      exact flat_getD h k
theorem told_loop {b : ES} {a : Slot} {s : Src} (hb : ∀ st rs, wfAt (List.length rs) st → flats rs = true → rs.length < 1000 → b [a, some (.lst rs, true), some (enc st, false), none] s = .ok (.nx, [a, some (.lst (rs ++ [rwOf rs st]), true), some (enc st, false), none], s)) :
    ∀ (ss : List Stp) (rs : List PV) (sl : Slot), pl sl → wfs rs.length ss → flats rs = true → rs.length + ss.length ≤ 1000 → ∃ sl', pl sl' ∧ forGo (.nm 2) b (ss.map enc) [a, some (.lst rs, true), sl, none] s = .ok (.nx, [a, some (.lst (acc rwOf rs ss), true), sl', none], s)
  | [], rs, sl, hp, _, _, _ => ⟨sl, hp, rfl⟩
  | st :: ss, rs, sl, hp, hw, hf, hl => by
    rw [List.length_cons] at hl
    obtain ⟨sl', hp', e⟩ := told_loop hb ss (rs ++ [rwOf rs st]) (some (enc st, false)) (pl_some _) (by rw [List.length_append]; exact hw.2) (by rw [flats_app, hf, ev_fs1, flat_rwOf hf]; rfl) (by rw [List.length_append, List.length_singleton]; omega)
    refine ⟨sl', hp', ?_⟩
    rw [List.map_cons]
    unfold forGo
    rw [set_nm (enc st) (sl := sl) rfl hp]
    dsimp only [List.set]
    rw [hb st rs hw.1 hf (by omega)]
    exact e
def rows (ss : List Stp) : List PV := acc rwOf [] ss
theorem told_ok (ss : List Stp) (s : Src) (r : PV) (hw : wfs 0 ss) (hl : ss.length ≤ 1000) (hr : (rows ss).getLast? = some r) : _law_told_rowF [encs ss] s = .ok (r, s) := by
  obtain ⟨sl', hp, e⟩ := told_loop (a := some (encs ss, false)) (s := s) (fun st rs h1 h2 h3 => told_step st rs _ s h1 h2 h3) ss [] none pl_none hw rfl (by simpa using hl)
  unfold _law_told_rowF _law_told_rowB
  simp [Y.for, I.seq, encs, seqF, frzP]
  simp [encs] at e
  rw [e]
  obtain ⟨ys, hy⟩ := List.getLast?_eq_some_iff.mp hr
  unfold rows at hy
  rw [hy]
  have e2 := ixF_last (xs := ys) (z := r) (t := .own 1) (t' := .cl)
  simp [e2]

/-! ### accumulations -/
theorem acc_app {α : Type} {f : List α → Stp → α} : ∀ (ss : List Stp) (zs : List α), ∃ ys, acc f zs ss = zs ++ ys ∧ ys.length = ss.length
  | [], zs => ⟨[], by simp [acc], rfl⟩
  | st :: ss, zs => by
    obtain ⟨ys, e, hl⟩ := acc_app ss (zs ++ [f zs st])
    exact ⟨f zs st :: ys, by unfold acc; rw [e, List.append_assoc]; rfl, by simp [hl]⟩
theorem acc_len {α : Type} {f : List α → Stp → α} (ss : List Stp) (zs : List α) : (acc f zs ss).length = zs.length + ss.length := by
  obtain ⟨ys, e, hl⟩ := acc_app (f := f) ss zs
  rw [e, List.length_append, hl]
theorem acc_snoc {α : Type} {f : List α → Stp → α} : ∀ (ss : List Stp) (st : Stp) (zs : List α), acc f zs (ss ++ [st]) = acc f zs ss ++ [f (acc f zs ss) st]
  | [], st, zs => rfl
  | x :: ss, st, zs => by
    show acc f (zs ++ [f zs x]) (ss ++ [st]) = _
    rw [acc_snoc ss st]
    rfl
/-- the k-th, from those ahead of it -/
theorem acc_get {α : Type} {f : List α → Stp → α} : ∀ (ss : List Stp) (zs : List α) (k : Nat) (st : Stp), ss[k]? = some st → (acc f zs ss)[zs.length + k]? = some (f ((acc f zs ss).take (zs.length + k)) st)
  | [], zs, k, st, h => by simp at h
  | x :: ss, zs, 0, st, h => by
    obtain rfl : x = st := by simpa using h
    show (acc f (zs ++ [f zs x]) ss)[_]? = some (f ((acc f (zs ++ [f zs x]) ss).take _) x)
    obtain ⟨ys, e, _⟩ := acc_app (f := f) ss (zs ++ [f zs x])
    rw [e, List.append_assoc]
    simp
  | x :: ss, zs, k + 1, st, h => by
    have ih := acc_get (f := f) ss (zs ++ [f zs x]) k st (by simpa using h)
    rw [List.length_append, List.length_singleton, show zs.length + 1 + k = zs.length + (k + 1) by omega] at ih
    exact ih
theorem wfs_get : ∀ {ss : List Stp} {n k : Nat} {st : Stp}, wfs n ss → ss[k]? = some st → wfAt (n + k) st
  | [], _, _, _, _, h => by simp at h
  | x :: ss, n, 0, st, w, h => by
    obtain rfl : x = st := by simpa using h
    exact w.1
  | x :: ss, n, k + 1, st, w, h => by
    have := wfs_get (k := k) (st := st) w.2 (by simpa using h)
    rw [show n + 1 + k = n + (k + 1) by omega] at this
    exact this
theorem wfs_app : ∀ {ss ts : List Stp} {n : Nat}, wfs n ss → wfs (n + ss.length) ts → wfs n (ss ++ ts)
  | [], ts, n, _, h => by simpa using h
  | x :: ss, ts, n, w, h => ⟨w.1, wfs_app w.2 (by rw [List.length_cons] at h; rw [show n + 1 + ss.length = n + (ss.length + 1) by omega]; exact h)⟩
end K32
set_option Elab.async false
set_option linter.all false
set_option maxRecDepth 100000
namespace K32
open PySem L2 EV

/-! ### the needed ones -/
def kI (k : Nat) : Key := .inl (k : Int)
theorem kI_inj {a b : Nat} : kI a = kI b ↔ a = b := by
  unfold kI
  constructor
  · intro h
    have := Sum.inl.inj h
    omega
  · intro h; rw [h]
@[simp] theorem keyOf_nI (k : Nat) : keyOf (nI k) = some (kI k) := rfl
@[simp] theorem keyOf_int (k : Nat) : keyOf (.int (k : Int)) = some (kI k) := rfl
def tT : Nat → PV := fun _ => .bl true
def addK (K : List Nat) (j : Nat) : List Nat := if j ∈ K then K else K ++ [j]
theorem any_kI (K : List Nat) (j : Nat) : ((K.map kI).any fun k => decide (k = kI j)) = decide (j ∈ K) := by
  induction K with
  | nil => simp
  | cons k K ih =>
    rw [List.map_cons, List.any_cons, ih]
    by_cases h : k = j
    · subst h; simp
    · have h1 : ¬ kI k = kI j := fun z => h (kI_inj.mp z)
      have h2 : j ≠ k := fun z => h z.symm
      simp [h1, h2]
theorem dputV_true : ∀ (K : List Nat) (j : Nat), dputV (K.map kI) (K.map tT) (kI j) (.bl true) = K.map tT
  | [], _ => rfl
  | k :: K, j => by
    rw [List.map_cons, List.map_cons]
    unfold dputV
    rw [dputV_true K j]
    unfold tT
    split <;> rfl
theorem dput_add (K : List Nat) (j : Nat) : dput (K.map kI) (K.map tT) (kI j) (.bl true) = ((addK K j).map kI, (addK K j).map tT) := by
  unfold dput addK
  rw [any_kI]
  by_cases h : j ∈ K
  · rw [if_pos (decide_eq_true h), if_pos h, dputV_true]
  · rw [if_neg (by simpa using h), if_neg h, List.map_append, List.map_append]
    rfl
theorem dget_kI : ∀ (K : List Nat) (f : Nat → PV) (j : Nat), dget (K.map kI) (K.map f) (kI j) = if j ∈ K then some (f j) else none
  | [], _, _ => rfl
  | k :: K, f, j => by
    rw [List.map_cons, List.map_cons]
    unfold dget
    rw [dget_kI K f j]
    by_cases h : k = j
    · subst h; simp
    · have h1 : ¬ kI k = kI j := fun z => h (kI_inj.mp z)
      have h2 : j ≠ k := fun z => h z.symm
      rw [if_neg h1]
      simp [h2]
theorem addK_nodup {K : List Nat} (h : K.Nodup) (j : Nat) : (addK K j).Nodup := by
  unfold addK
  split
  · exact h
  · rename_i hj
    refine List.nodup_append.mpr ⟨h, by simp, ?_⟩
    intro a ha b hb e
    rw [List.mem_singleton] at hb
    subst hb e
    exact hj ha
theorem mem_addK {K : List Nat} {j x : Nat} : x ∈ addK K j ↔ x ∈ K ∨ x = j := by
  unfold addK
  split
  · rename_i h
    constructor
    · exact .inl
    · rintro (h' | rfl)
      · exact h'
      · exact h
  · rw [List.mem_append, List.mem_singleton]
theorem fold_nodup : ∀ (js : List Nat) {K : List Nat}, K.Nodup → (js.foldl addK K).Nodup
  | [], _, h => h
  | j :: js, _, h => fold_nodup js (addK_nodup h j)
theorem mem_fold : ∀ (js : List Nat) {K : List Nat} {x : Nat}, x ∈ js.foldl addK K ↔ x ∈ K ∨ x ∈ js
  | [], K, x => by simp
  | j :: js, K, x => by
    rw [List.foldl_cons, mem_fold js, mem_addK, List.mem_cons, or_assoc]
theorem nodup_len : ∀ {n : Nat} {K : List Nat}, K.Nodup → (∀ k ∈ K, k < n) → K.length ≤ n
  | 0, K, _, hb => by
    cases K with
    | nil => exact Nat.le_refl _
    | cons k K => exact absurd (hb k (by simp)) (Nat.not_lt_zero _)
  | n + 1, K, h, hb => by
    by_cases hn : n ∈ K
    · have h1 := nodup_len (n := n) (h.erase n) fun k hk => by
        have h2 := (h.mem_erase_iff).mp hk
        have := hb k h2.2
        have := h2.1
        omega
      rw [List.length_erase_of_mem hn] at h1
      omega
    · have h1 := nodup_len (n := n) h fun k hk => by
        have := hb k hk
        have : k ≠ n := fun z => hn (z ▸ hk)
        omega
      omega
def dicK (K : List Nat) : PV := .dK (K.map kI) (K.map tT)
theorem inner_loop {a x2 : Slot} {s : Src} : ∀ (js : List Nat) (K : List Nat) (sl : Slot), pl sl → K.length + js.length ≤ 5000 → ∃ sl', pl sl' ∧
    forGo (.nm 3) (Y.dset 1 (E.var 3) (E.cst (.bl true))) (js.map nI) [a, some (dicK K, true), x2, sl] s = .ok (.nx, [a, some (dicK (js.foldl addK K), true), x2, sl'], s)
  | [], K, sl, hp, _ => ⟨sl, hp, rfl⟩
  | j :: js, K, sl, hp, hl => by
    rw [List.length_cons] at hl
    have hk : (addK K j).length ≤ K.length + 1 := by
      unfold addK
      split
      · omega
      · rw [List.length_append]; simp
    obtain ⟨sl', hp', e⟩ := inner_loop (a := a) (x2 := x2) (s := s) js (addK K j) (some (nI j, false)) (pl_some _) (by omega)
    refine ⟨sl', hp', ?_⟩
    rw [List.map_cons]
    unfold forGo
    rw [set_nm (nI j) (sl := sl) rfl hp]
    have hz : K.length < sizeLine := small_lt (by omega)
    have eb : Y.dset 1 (E.var 3) (E.cst (.bl true)) ([a, some (dicK K, true), x2, sl].set 3 (some (nI j, false))) s = .ok (.nx, [a, some (dicK (addK K j), true), x2, some (nI j, false)], s) := by
      simp [dicAt, dicK, hz, dput_add]
    dsimp only
    rw [eb]
    exact e
theorem outer_loop {ss : List Stp} {s : Src} (hw : wfs 0 ss) (hl : ss.length ≤ 1000) (hm : ∀ st ∈ ss, (nums st).length ≤ 1000) : ∀ (m : Nat) (K : List Nat) (x2 x3 : Slot), pl x2 → pl x3 → m ≤ ss.length → K.Nodup → (∀ k ∈ K, k < ss.length) → (∀ k st, m ≤ k → k ∈ K → ss[k]? = some st → ∀ j ∈ nums st, j ∈ K) →
    ∃ K' x2' x3', forGo (.nm 2) (Y.ite (E.bin (inF false) (E.var 2) (E.var 1))
    (Y.for (I.seq (E.callN numbers_inF (E.cons (E.bin ixF (E.var 0) (E.var 2)) E.nil))) (.nm 3)
    (Y.dset 1 (E.var 3) (E.cst (.bl true))))
    Y.nop) ((List.range m).reverse.map nI) [some (encs ss, false), some (dicK K, true), x2, x3] s = .ok (.nx, [some (encs ss, false), some (dicK K', true), x2', x3'], s) ∧
    K'.Nodup ∧ (∀ k ∈ K', k < ss.length) ∧ (∀ k ∈ K, k ∈ K') ∧ ∀ k st, k ∈ K' → ss[k]? = some st → ∀ j ∈ nums st, j ∈ K'
  | 0, K, x2, x3, _, _, _, hn, hb, hc => ⟨K, x2, x3, rfl, hn, hb, fun _ h => h, fun k st h1 h2 => hc k st (Nat.zero_le _) h1 h2⟩
  | m + 1, K, x2, x3, p2, p3, hle, hn, hb, hc => by
    have hlt : m < ss.length := by omega
    obtain ⟨st, hst⟩ : ∃ st, ss[m]? = some st := ⟨_, List.getElem?_eq_getElem hlt⟩
    have hkl := nodup_len hn hb
    have hwm := wfs_get hw hst
    rw [Nat.zero_add] at hwm
    have hml := hm st (List.mem_of_getElem? hst)
    -- one turn
    obtain ⟨K1, x3', p3', eb, hn1, hb1, hs1, hc1⟩ : ∃ K1 x3', pl x3' ∧ Y.ite (E.bin (inF false) (E.var 2) (E.var 1))
        (Y.for (I.seq (E.callN numbers_inF (E.cons (E.bin ixF (E.var 0) (E.var 2)) E.nil))) (.nm 3)
        (Y.dset 1 (E.var 3) (E.cst (.bl true))))
        Y.nop [some (encs ss, false), some (dicK K, true), some (nI m, false), x3] s = .ok (.nx, [some (encs ss, false), some (dicK K1, true), some (nI m, false), x3'], s) ∧ K1.Nodup ∧ (∀ k ∈ K1, k < ss.length) ∧ (∀ k ∈ K, k ∈ K1) ∧ ∀ k st, m ≤ k → k ∈ K1 → ss[k]? = some st → ∀ j ∈ nums st, j ∈ K1 := by
      have ei : inF false (nI m) .cl (dicK K) (.own 1) = some (.bl (decide (m ∈ K)), .cl) := by
        show (match keyOf (nI m) with
          | some k => some (PV.bl (false != (dget (K.map kI) (K.map tT) k).isSome), Tag.cl)
          | none => none) = _
        rw [keyOf_nI]
        dsimp only
        rw [dget_kI]
        by_cases h : m ∈ K <;> simp [h]
      by_cases h : m ∈ K
      · obtain ⟨sl', hp', e⟩ := inner_loop (a := some (encs ss, false)) (x2 := some (nI m, false)) (s := s) (nums st) K x3 p3 (by omega)
        refine ⟨(nums st).foldl addK K, sl', hp', ?_, fold_nodup _ hn, fun k hk => ?_, fun k hk => mem_fold _ |>.mpr (.inl hk), fun k st' hk1 hk2 hk3 j hj => ?_⟩
        · have hx : ixF (encs ss) .cl (nI m) .cl = some (enc st, .cl) := ixF_tup (by rw [List.getElem?_map, hst]; rfl)
          simp [ei, h, Y.for, I.seq, hx, numbers_in_ok, seqF, frzP]
          exact e
        · rcases (mem_fold _).mp hk with hk | hk
          · exact hb k hk
          · exact Nat.lt_trans (hwm k hk) hlt
        · rcases (mem_fold _).mp hk2 with hk | hk
          · by_cases hkm : k = m
            · subst hkm
              rw [hst] at hk3; cases hk3
              exact (mem_fold _).mpr (.inr hj)
            · exact (mem_fold _).mpr (.inl (hc k st' (by omega) hk hk3 j hj))
          · exact absurd (hwm k hk) (by omega)
      · refine ⟨K, x3, p3, ?_, hn, hb, fun _ z => z, fun k st' hk1 hk2 hk3 j hj => ?_⟩
        · simp [ei, h]
        · have : k ≠ m := fun z => h (z ▸ hk2)
          exact hc k st' (by omega) hk2 hk3 j hj
    obtain ⟨K', x2', x3'', e, r1, r2, r3, r4⟩ := outer_loop hw hl hm m K1 (some (nI m, false)) x3' (pl_some _) p3' (by omega) hn1 hb1 hc1
    refine ⟨K', x2', x3'', ?_, r1, r2, fun k hk => r3 k (hs1 k hk), r4⟩
    rw [List.range_succ, List.reverse_append, List.reverse_singleton, List.singleton_append, List.map_cons]
    conv => lhs; unfold forGo
    rw [set_nm (nI m) (sl := x2) rfl p2]
    dsimp only [List.set]
    rw [eb]
    exact e
theorem isortI_cast (K : List Nat) (h : K.Nodup) : ∃ ks : List Nat, isortI (K.map fun (k : Nat) => (k : Int)) = ks.map (fun (k : Nat) => (k : Int)) ∧ ks.Pairwise (· < ·) ∧ ∀ x, x ∈ ks ↔ x ∈ K := by
  have hp := isortI_perm (K.map fun (k : Nat) => (k : Int))
  have hw := isortI_pw (K.map fun (k : Nat) => (k : Int))
  generalize isortI (K.map fun (k : Nat) => (k : Int)) = zs at hp hw
  have hz : zs = (zs.map Int.toNat).map (fun (k : Nat) => (k : Int)) := by
    rw [List.map_map]
    conv => lhs; rw [← List.map_id zs]
    refine List.map_congr_left fun z hz => ?_
    obtain ⟨k, _, rfl⟩ := List.mem_map.mp (hp.mem_iff.mp hz)
    simp
  have hm : ∀ x, x ∈ zs.map Int.toNat ↔ x ∈ K := fun x => by
    rw [List.mem_map]
    constructor
    · rintro ⟨z, hz, rfl⟩
      obtain ⟨k, hk, rfl⟩ := List.mem_map.mp (hp.mem_iff.mp hz)
      simpa using hk
    · intro hx
      exact ⟨(x : Int), hp.mem_iff.mpr (List.mem_map.mpr ⟨x, hx, rfl⟩), by simp⟩
  have hn : zs.Nodup := hp.nodup_iff.mpr (List.pairwise_map.mpr (h.imp fun {a b} hab e => hab (by omega)))
  refine ⟨zs.map Int.toNat, hz, ?_, hm⟩
  rw [hz] at hw hn
  have h1 := List.pairwise_map.mp hw
  have h2 := List.pairwise_map.mp hn
  exact (h1.and h2).imp fun {a b} hab => by
    have h3 := hab.1
    have h4 : (a : Int) ≠ b := hab.2
    omega
theorem inls_kI : ∀ K : List Nat, inlsOf (K.map kI) = some (K.map fun (k : Nat) => (k : Int))
  | [] => rfl
  | k :: K => by
    rw [List.map_cons, List.map_cons]
    show (inlsOf (K.map kI)).map _ = _
    rw [inls_kI K]; rfl
theorem needed_ok (ss : List Stp) (s : Src) (hw : wfs 0 ss) (h0 : 0 < ss.length) (hl : ss.length ≤ 1000) (hm : ∀ st ∈ ss, (nums st).length ≤ 1000) :
    ∃ ks : List Nat, neededF [encs ss] s = .ok (.lst (ks.map nI), s) ∧ ks.Pairwise (· < ·) ∧ (∀ k ∈ ks, k < ss.length) ∧ ss.length - 1 ∈ ks ∧ ∀ k st, k ∈ ks → ss[k]? = some st → ∀ j ∈ nums st, j ∈ ks := by
  obtain ⟨K', x2', x3', e, r1, r2, r3, r4⟩ := outer_loop (s := s) hw hl hm ss.length [ss.length - 1] none none pl_none pl_none (Nat.le_refl _) (by simp) (fun k hk => by rw [List.mem_singleton] at hk; omega) (fun k st h1 h2 h3 => by
    have := (List.getElem?_eq_some_iff.mp h3).1
    omega)
  obtain ⟨ks, e1, e2, e3⟩ := isortI_cast K' r1
  refine ⟨ks, ?_, e2, fun k hk => r2 k ((e3 k).mp hk), (e3 _).mpr (r3 _ (by simp)), fun k st h1 h2 j hj => (e3 j).mpr (r4 k st ((e3 k).mp h1) h2 j hj)⟩
  have hn : ((ss.length : Nat) : Int) - 1 = ((ss.length - 1 : Nat) : Int) := by omega
  have hr : rng3F [(.int ((ss.length : Int) - 1), .cl), (.int (-1), .cl), (.int (-1), .cl)] = some ((List.range ss.length).reverse.map nI) := by
    show (if range62 ((ss.length : Int) - 1) && range62 (-1) && decide ((-1 : Int) = -1) && decide ((((ss.length : Int) - 1) - (-1)).toNat ≤ sizeLine) then some (rangeD ((ss.length : Int) - 1) (-1) (((ss.length : Int) - 1) - (-1)).toNat) else none) = _
    have hc : (((ss.length : Int) - 1) - (-1)).toNat = ss.length := by omega
    have hz := small_le (n := ss.length) (by omega)
    rw [hc]
    have cond : (range62 ((ss.length : Int) - 1) && range62 (-1) && decide ((-1 : Int) = -1) && decide (ss.length ≤ sizeLine)) = true := by
      have r1 : range62 ((ss.length : Int) - 1) = true := by
        clear hc
        unfold range62
        simp only [Bool.and_eq_true, decide_eq_true_eq]
        omega
      have r2 : range62 (-1) = true := by decide
      rw [r1, r2]
      simp [hz]
    rw [if_pos cond]
    unfold rangeD nI
    congr 1
    apply List.ext_getElem?
    intro i
    rw [List.getElem?_map, List.getElem?_map]
    by_cases hi : i < ss.length
    · rw [List.getElem?_range hi, List.getElem?_reverse (by simpa using hi), List.length_range, List.getElem?_range (by omega)]
      simp only [Option.map_some]
      congr 2
      omega
    · rw [List.getElem?_eq_none (by simpa using hi), List.getElem?_eq_none (by simpa using hi)]
      rfl
  have hlen : lenF [(encs ss, .cl)] = some (.int (ss.length : Int), .cl) := by
    unfold encs lenF
    simp
  have hk : keyOf (.int ((ss.length : Int) - 1)) = some (kI (ss.length - 1)) := by
    rw [hn]; rfl
  have hs : sortedF [(dicK K', .own 1)] = some (.lst (ks.map nI), .fr) := by
    show (inlsOf (K'.map kI)).map (fun ns => (PV.lst ((isortI ns).map .int), Tag.fr)) = _
    rw [inls_kI]
    simp only [Option.map_some]
    rw [e1, List.map_map]
    rfl
  have hsub : ∀ t t' : Tag, subF (.int (ss.length : Int)) t (.int 1) t' = some (.int ((ss.length : Int) - 1), .cl) := fun _ _ => rfl
  unfold neededF neededB
  have ed : dicK [ss.length - 1] = .dK [kI (ss.length - 1)] [.bl true] := rfl
  rw [ed, List.map_reverse] at e
  simp [hlen, hk, Y.for, I.args, hr, frzP, e, hs]
end K32
set_option Elab.async false
set_option linter.all false
set_option maxRecDepth 100000
namespace K32
open PySem L2 EV

theorem rwOf_congr {rs rs' : List PV} {st : Stp} (h : ∀ n ∈ nums st, rs.getD n .non = rs'.getD n .non) : rwOf rs st = rwOf rs' st := by
  cases st with
  | lt c => rfl
  | jn i j => simp only [rwOf, h i (by simp [nums]), h j (by simp [nums])]
  | rt i => simp only [rwOf, h i (by simp [nums])]
  | lf i => simp only [rwOf, h i (by simp [nums])]
  | mx ks =>
    have e : ks.map (fun k => rs.getD k .non) = ks.map (fun k => rs'.getD k .non) := List.map_congr_left (fun n hn => h n hn)
    simp only [rwOf, e]
theorem take_getD {α : Type} {xs : List α} {n k : Nat} {d : α} (h : n < k) : (xs.take k).getD n d = xs.getD n d := by
  rw [List.getD_eq_getElem?_getD, List.getD_eq_getElem?_getD, List.getElem?_take, if_pos h]
/-- the k-th row, the k-th size -/
def rw_ (ss : List Stp) (k : Nat) : PV := (rows ss).getD k .non
def sz_ (ss : List Stp) (k : Nat) : Nat := (sizes ss).getD k 0
theorem rw_eq {ss : List Stp} {k : Nat} {st : Stp} (hw : wfs 0 ss) (h : ss[k]? = some st) : rw_ ss k = rwOf (rows ss) st := by
  have h1 := acc_get (f := rwOf) ss [] k st h
  have h2 := wfs_get hw h
  rw [List.length_nil, Nat.zero_add] at h1
  rw [Nat.zero_add] at h2
  unfold rw_ rows
  rw [List.getD_eq_getElem?_getD, h1]
  exact rwOf_congr fun n hn => take_getD (h2 n hn)
theorem sz_eq {ss : List Stp} {k : Nat} {st : Stp} (hw : wfs 0 ss) (h : ss[k]? = some st) : sz_ ss k = 1 + ((nums st).map (sz_ ss)).sum := by
  have h1 := acc_get (f := szOf) ss [] k st h
  have h2 := wfs_get hw h
  rw [List.length_nil, Nat.zero_add] at h1
  rw [Nat.zero_add] at h2
  unfold sz_ sizes
  rw [List.getD_eq_getElem?_getD, h1]
  show szOf _ st = _
  unfold szOf
  rw [List.map_congr_left fun n hn => take_getD (h2 n hn)]
theorem last_row {ss : List Stp} (h : 0 < ss.length) : (rows ss).getLast? = some (rw_ ss (ss.length - 1)) := by
  have hl : (rows ss).length = ss.length := by unfold rows; rw [acc_len]; simp
  rw [List.getLast?_eq_getElem?, hl]
  exact getD_at (by omega)
theorem last_size {ss : List Stp} (h : 0 < ss.length) : (sizes ss).getLast? = some (sz_ ss (ss.length - 1)) := by
  have hl : (sizes ss).length = ss.length := by unfold sizes; rw [acc_len]; simp
  rw [List.getLast?_eq_getElem?, hl]
  exact getD_at (by omega)
theorem flat_acc : ∀ (ss : List Stp) (rs : List PV), flats rs = true → flats (acc rwOf rs ss) = true
  | [], rs, h => h
  | st :: ss, rs, h => flat_acc ss _ (by rw [flats_app, h, ev_fs1, flat_rwOf h]; rfl)
theorem flat_rows (ss : List Stp) : flats (rows ss) = true := flat_acc ss [] rfl
theorem flat_rw (ss : List Stp) (k : Nat) : flat (rw_ ss k) = true := flat_getD (flat_rows ss) k

/-! ### row_of -/
def dicR (ss : List Stp) (done : List Nat) : PV := .dK (done.map kI) (done.map (rw_ ss))
theorem dput_new {K : List Nat} {f : Nat → PV} {k : Nat} (h : k ∉ K) : dput (K.map kI) (K.map f) (kI k) (f k) = ((K ++ [k]).map kI, (K ++ [k]).map f) := by
  unfold dput
  rw [any_kI, if_neg (by simpa using h), List.map_append, List.map_append]
  rfl
abbrev rowB : ES := (Y.seq (Y.asg 3 (E.bin ixF (E.var 0) (E.var 2)))
    (Y.ite (E.isi .str (E.var 3))
    (Y.dset 1 (E.var 2) (E.var 3))
    (Y.ite (E.bin (inF false) (E.bin ixF (E.var 3) (E.cst (.int 0))) (E.tup (E.cons (E.cst (.str "join")) (E.cons (E.cst (.str "mix")) E.nil))))
    (Y.dset 1 (E.var 2) (E.tup (E.cons (E.bin ixF (E.var 3) (E.cst (.int 0))) (E.cons (E.callB tupleF (E.cons (E.comp (I.seq (E.callN numbers_inF (E.cons (E.var 3) E.nil))) (.nm 4) none (E.bin ixF (E.var 1) (E.var 4)) [4]) E.nil)) E.nil))))
    (Y.dset 1 (E.var 2) (E.tup (E.cons (E.bin ixF (E.var 3) (E.cst (.int 0))) (E.cons (E.bin ixF (E.var 1) (E.bin ixF (E.var 3) (E.cst (.int 1)))) E.nil)))))))
theorem row_step {ss : List Stp} {s : Src} {k : Nat} {st : Stp} {done : List Nat} {x3 : Slot} (hw : wfs 0 ss) (hst : ss[k]? = some st) (hd : ∀ j ∈ nums st, j ∈ done) (hk : k ∉ done) (hl : done.length ≤ 2000) :
    rowB [some (encs ss, false), some (dicR ss done, true), some (nI k, false), x3, none] s = .ok (.nx, [some (encs ss, false), some (dicR ss (done ++ [k]), true), some (nI k, false), some (enc st, false), none], s) := by
  have hx : ixF (encs ss) .cl (nI k) .cl = some (enc st, .cl) := ixF_tup (by rw [List.getElem?_map, hst]; rfl)
  have hr := rw_eq hw hst
  have hp := dput_new (f := rw_ ss) hk
  rw [hr] at hp
  have h2 : done.length < sizeLine := small_lt (by omega)
  have hg : ∀ (n : Nat) (t t' : Tag), n ∈ done → ixF (dicR ss done) t (.int (n : Int)) t' = some (rw_ ss n, t.item) := fun n t t' hn => by
    show (match keyOf (.int (n : Int)) with
      | some k => (dget (done.map kI) (done.map (rw_ ss)) k).map fun z => (z, t.item)
      | none => none) = _
    rw [keyOf_int]
    dsimp only
    rw [dget_kI, if_pos hn]; rfl
  have hc := rows_comp (numF := numbers_inF) (i := 3) (j := 1) (k := 4) (ρ := [some (encs ss, false), some (dicR ss done, true), some (nI k, false), some (enc st, false), none]) (s := s) (st := st) (rs := rows ss) numbers_in_ok rfl rfl fun n hn => by
    refine ⟨.cl, ?_, rfl⟩
    simp [wipeP]
    unfold nI
    rw [hg n _ _ (hd n hn)]
    simp [rw_]
  have s2 : (2 : Nat) ≤ sizeLine := small_le (by omega)
  have e0 : ∀ (o : Str) (p : List PV) (t : Tag), ixF (.tup (.str o :: p)) t (.int 0) .cl = some (.str o, t.item) := fun o p t => ixF_tup (k := 0) rfl
  cases st with
  | lt c =>
    simp only [enc, rwOf] at *
    simp [hx, isT, dicAt, dicR, h2, hp]
  | jn i j =>
    simp only [enc, rwOf, nums] at *
    simp at hc hp
    simp [hx, isT, dicAt, e0, s2, hc, tupleF, dispTag]
    simp [dicR, h2, hp]
  | mx ks =>
    simp only [enc, rwOf, nums] at *
    simp at hc hp
    simp [hx, isT, dicAt, e0, s2, hc, tupleF, dispTag]
    simp [dicR, h2, hp]
  | rt i =>
    have e1 : ∀ (t : Tag), ixF (.tup [.str "right", nI i]) t (.int 1) .cl = some (nI i, t.item) := fun t => ixF_tup (k := 1) rfl
    have e3 := hg i (.own 1) .cl (hd i (by simp [nums]))
    simp only [enc, rwOf, nums, rw_] at *
    simp [hx, isT, dicAt, e0, e1, s2, tupleF, dispTag]
    simp only [nI] at *
    rw [e3]
    simp at hp
    simp [dicR, h2, s2, hp]
  | lf i =>
    have e1 : ∀ (t : Tag), ixF (.tup [.str "left", nI i]) t (.int 1) .cl = some (nI i, t.item) := fun t => ixF_tup (k := 1) rfl
    have e3 := hg i (.own 1) .cl (hd i (by simp [nums]))
    simp only [enc, rwOf, nums, rw_] at *
    simp [hx, isT, dicAt, e0, e1, s2, tupleF, dispTag]
    simp only [nI] at *
    rw [e3]
    simp at hp
    simp [dicR, h2, s2, hp]
theorem row_loop {ss : List Stp} {s : Src} (hw : wfs 0 ss) (hl : ss.length ≤ 1000) : ∀ (rest done : List Nat) (x2 x3 : Slot), pl x2 → (done ++ rest).Pairwise (· < ·) → (∀ k ∈ done ++ rest, k < ss.length) → (∀ k st, k ∈ done ++ rest → ss[k]? = some st → ∀ j ∈ nums st, j ∈ done ++ rest) →
    ∃ x2' x3', forGo (.nm 2) rowB (rest.map nI) [some (encs ss, false), some (dicR ss done, true), x2, x3, none] s = .ok (.nx, [some (encs ss, false), some (dicR ss (done ++ rest), true), x2', x3', none], s)
  | [], done, x2, x3, _, _, _, _ => ⟨x2, x3, by rw [List.append_nil]; rfl⟩
  | k :: rest, done, x2, x3, p2, hp, hb, hc => by
    have hk : k < ss.length := hb k (by simp)
    obtain ⟨st, hst⟩ : ∃ st, ss[k]? = some st := ⟨_, List.getElem?_eq_getElem hk⟩
    have hnk := wfs_get hw hst
    rw [Nat.zero_add] at hnk
    have hpp := List.pairwise_append.mp hp
    have hnd : k ∉ done := fun h => absurd (hpp.2.2 k h k (by simp)) (Nat.lt_irrefl _)
    have hd : ∀ j ∈ nums st, j ∈ done := fun j hj => by
      have h1 := hc k st (by simp) hst j hj
      have h2 := hnk j hj
      rcases List.mem_append.mp h1 with h | h
      · exact h
      · rcases List.mem_cons.mp h with h | h
        · omega
        · have := (List.pairwise_cons.mp hpp.2.1).1 j h
          omega
    have hdl : done.length ≤ 2000 := by
      have := nodup_len (n := ss.length) (K := done) (hpp.1.imp fun {a b} h => by omega) fun x hx => hb x (by simp [hx])
      omega
    have e1 := row_step (s := s) (x3 := x3) hw hst hd hnd hdl
    have ea : done ++ [k] ++ rest = done ++ k :: rest := by simp
    obtain ⟨x2', x3', e2⟩ := row_loop hw hl rest (done ++ [k]) (some (nI k, false)) (some (enc st, false)) (pl_some _) (by rw [ea]; exact hp) (by rw [ea]; exact hb) (by rw [ea]; exact hc)
    refine ⟨x2', x3', ?_⟩
    rw [List.map_cons]
    conv => lhs; unfold forGo
    rw [set_nm (nI k) (sl := x2) rfl p2]
    dsimp only [List.set]
    rw [e1]
    rw [ea] at e2
    exact e2
structure OkS (ss : List Stp) : Prop where
  wf : wfs 0 ss
  pos : 0 < ss.length
  len : ss.length ≤ 1000
  num : ∀ st ∈ ss, (nums st).length ≤ 1000
def lastR (ss : List Stp) : PV := rw_ ss (ss.length - 1)
def lastZ (ss : List Stp) : Nat := sz_ ss (ss.length - 1)
theorem row_of_ok {ss : List Stp} (o : OkS ss) (s : Src) : row_ofF [encs ss] s = if lastZ ss ≤ 200 then .ok (lastR ss, s) else .exc 0 s := by
  have h1 := sizes_ok ss s o.wf o.len
  obtain ⟨zs, hz⟩ := List.getLast?_eq_some_iff.mp (last_size o.pos)
  have h2 : ∀ t t', ixF (.lst ((sizes ss).map nI)) t (.int (-1)) t' = some (nI (lastZ ss), t.item) := fun t t' => by
    rw [hz, List.map_append]
    exact ixF_last
  obtain ⟨ks, k1, k2, k3, k4, k5⟩ := needed_ok ss s o.wf o.pos o.len o.num
  have ft : newTag [(encs ss, .cl)] (.lst ((sizes ss).map nI)) = .fr ∨ newTag [(encs ss, .cl)] (.lst ((sizes ss).map nI)) = .cl := by
    unfold newTag
    split
    · show (if _ then Tag.fr else Tag.cl) = .fr ∨ (if _ then Tag.fr else Tag.cl) = .cl
      split <;> simp
    · exact .inr rfl
  have fi : (newTag [(encs ss, .cl)] (.lst ((sizes ss).map nI))).item = .cl := by rcases ft with h | h <;> rw [h] <;> rfl
  obtain ⟨x2', x3', e⟩ := row_loop (s := s) o.wf o.len ks [] none none pl_none k2 k3 k5
  have hlen : lenF [(encs ss, .cl)] = some (.int (ss.length : Int), .cl) := by
    unfold encs lenF
    simp
  unfold row_ofF row_ofB
  simp only [ev_run, List.length_singleton, if_true]
  by_cases hle : lastZ ss ≤ 200
  · rw [if_pos hle]
    have hd : ¬ (200 : Int) < (lastZ ss : Int) := by omega
    have e0 : dicR ss [] = .dK [] [] := rfl
    rw [e0, List.nil_append] at e
    have hn : ((ss.length : Nat) : Int) - 1 = ((ss.length - 1 : Nat) : Int) := by have := o.pos; omega
    have hsq : seqF (.lst (ks.map nI)) (newTag [(encs ss, .cl)] (.lst (ks.map nI))) = some (ks.map nI, none) := by
      unfold newTag
      split
      · show seqF _ (if _ then Tag.fr else Tag.cl) = _
        split <;> rfl
      · rfl
    have hx : ixF (dicR ss ks) (.own 1) (.int ((ss.length : Int) - 1)) .cl = some (lastR ss, .cl) := by
      rw [hn]
      show (dget (ks.map kI) (ks.map (rw_ ss)) (kI (ss.length - 1))).map _ = _
      rw [dget_kI, if_pos k4]; rfl
    have hcmp : ∀ t t' : Tag, cmpF (fun i j => decide (j < i)) (nI (lastZ ss)) t (.int 200) t' = some (.bl (decide ((200 : Int) < (lastZ ss : Int))), .cl) := fun _ _ => rfl
    simp [h1, h2, hcmp, hd, Y.for, I.seq, k1, hsq, frzP, hlen]
    unfold rowB at e
    rw [e]
    simp [hlen, hx]
  · rw [if_neg hle]
    have hd : (200 : Int) < (lastZ ss : Int) := by omega
    simp [h1, h2, nI, hd]
end K32
set_option Elab.async false
set_option linter.all false
set_option maxRecDepth 100000
namespace K32
open PySem L2 EV

def tooM : PV := .tup [.str "too many"]
theorem tried_ok {ss : List Stp} (o : OkS ss) (s : Src) : _law_triedF [encs ss] s = .ok (if lastZ ss ≤ 200 then lastR ss else tooM, s) := by
  have h := row_of_ok o s
  have s1 : (1 : Nat) ≤ sizeLine := small_le (by omega)
  unfold _law_triedF _law_triedB
  by_cases hle : lastZ ss ≤ 200
  · rw [if_pos hle] at h
    simp [Y.tryR, h, hle]
  · rw [if_neg hle] at h
    simp [Y.tryR, h, hle, s1, dispTag, tooM]
theorem parts_ok (ss : List Stp) (st : Stp) (s : Src) : parts_ofF [rwOf (rows ss) st] s = .ok (.tup ((nums st).map (rw_ ss)), s) := by
  have s1 : (1 : Nat) ≤ sizeLine := small_le (by omega)
  have s2 : (2 : Nat) ≤ sizeLine := small_le (by omega)
  have e0 : ∀ (o : Str) (p : List PV) (t : Tag), ixF (.tup (.str o :: p)) t (.int 0) .cl = some (.str o, t.item) := fun o p t => ixF_tup (k := 0) rfl
  have e1 : ∀ (o : Str) (y : PV) (t : Tag), ixF (.tup [.str o, y]) t (.int 1) .cl = some (y, t.item) := fun o y t => ixF_tup (k := 1) rfl
  unfold parts_ofF parts_ofB
  cases st <;> simp [rwOf, nums, isT, e0, e1, s1, s2, dispTag, rw_]
theorem le_sum : ∀ {xs : List Nat} {x : Nat}, x ∈ xs → x ≤ xs.sum
  | y :: ys, x, h => by
    rw [List.sum_cons]
    rcases List.mem_cons.mp h with rfl | h
    · omega
    · have := le_sum h
      omega
theorem size_of_ok {ss : List Stp} (hw : wfs 0 ss) (s : Src) : ∀ (N k : Nat), k < ss.length → sz_ ss k ≤ N → size_ofN N [rw_ ss k] s = .ok (nI (sz_ ss k), s)
  | 0, k, hk, h => by
    obtain ⟨st, hst⟩ : ∃ st, ss[k]? = some st := ⟨_, List.getElem?_eq_getElem hk⟩
    rw [sz_eq hw hst] at h
    omega
  | N + 1, k, hk, h => by
    obtain ⟨st, hst⟩ : ∃ st, ss[k]? = some st := ⟨_, List.getElem?_eq_getElem hk⟩
    have hs := sz_eq hw hst
    have hnk := wfs_get hw hst
    rw [Nat.zero_add] at hnk
    have ih : ∀ j ∈ nums st, size_ofN N [rw_ ss j] s = .ok (nI (sz_ ss j), s) := fun j hj => size_of_ok hw s N j (by have := hnk j hj; omega) (by
      have := le_sum (List.mem_map.mpr ⟨j, hj, rfl⟩ : sz_ ss j ∈ (nums st).map (sz_ ss))
      omega)
    have hp := parts_ok ss st s
    rw [← rw_eq hw hst] at hp
    have hc := comp_seq (a := E.callN parts_ofF (E.cons (E.var 0) E.nil)) (f := E.callN (size_ofN N) (E.cons (E.var 1) E.nil)) (i := 1) (ρ := [some (rw_ ss k, false), none]) (x := .tup ((nums st).map (rw_ ss))) (t := .cl) (s := s) (s1 := s) (c := none) (sl := none)
      (g := fun z => match size_ofN N [z] s with | .ok (r, _) => r | _ => .non) (by simp [hp]) rfl rfl pl_none fun z hz => by
        obtain ⟨j, hj, rfl⟩ := List.mem_map.mp hz
        refine ⟨.cl, ?_, rfl⟩
        simp [wipeP, ih j hj]
    have em : ((nums st).map (rw_ ss)).map (fun z => match size_ofN N [z] s with | .ok (r, _) => r | _ => .non) = ((nums st).map (sz_ ss)).map nI := by
      rw [List.map_map, List.map_map]
      refine List.map_congr_left fun j hj => ?_
      show (match size_ofN N [rw_ ss j] s with | .ok (r, _) => r | _ => .non) = nI (sz_ ss j)
      rw [ih j hj]
    rw [em] at hc
    rw [hs]
    generalize (nums st).map (sz_ ss) = ms at hc ⊢
    show runF 1 2 (size_ofB (size_ofN N)) [rw_ ss k] s = _
    unfold size_ofB
    simp [hc, sumF_nI]
    simp [nI]
theorem size_of_last {ss : List Stp} (o : OkS ss) (s : Src) (h : lastZ ss ≤ 200) : size_ofF [lastR ss] s = .ok (nI (lastZ ss), s) := size_of_ok o.wf s 202 _ (by have := o.pos; omega) (by unfold lastZ at h; omega)
theorem size_last {ss : List Stp} (o : OkS ss) (s : Src) : _law_sizeF [encs ss] s = .ok (nI (lastZ ss), s) := law_size_ok ss s _ o.wf o.len (last_size o.pos)
theorem told_last {ss : List Stp} (o : OkS ss) (s : Src) : _law_told_rowF [encs ss] s = .ok (lastR ss, s) := told_ok ss s _ o.wf o.len (last_row o.pos)

/-! ### the depth of a row, for comparisons -/
theorem depthAll_le {n : Nat} : ∀ {xs : List PV}, (∀ x ∈ xs, (toD x).depth ≤ n) → PyData.depthAll (toDs xs) ≤ n
  | [], _ => Nat.zero_le _
  | x :: xs, h => by
    show max (toD x).depth (PyData.depthAll (toDs xs)) ≤ n
    exact Nat.max_le.mpr ⟨h x (by simp), depthAll_le fun y hy => h y (by simp [hy])⟩
theorem lay_all : ∀ {xs : List PV}, (∀ x ∈ xs, (toD x).canLay0 = true) → PyData.canLayAll0 (toDs xs) = true
  | [], _ => rfl
  | x :: xs, h => by
    show ((toD x).canLay0 && PyData.canLayAll0 (toDs xs)) = true
    rw [h x (by simp), lay_all fun y hy => h y (by simp [hy])]; rfl
theorem depth_tup (xs : List PV) : (toD (.tup xs)).depth = PyData.depthAll (toDs xs) + 1 := by
  show (PyData.tuple (toDs xs)).depth = _
  rw [PyData.depth]
theorem lay_tup (xs : List PV) : (toD (.tup xs)).canLay0 = PyData.canLayAll0 (toDs xs) := by
  show (PyData.tuple (toDs xs)).canLay0 = _
  rw [PyData.canLay0]
theorem depth_str (x : Str) : (toD (.str x)).depth = 0 := by
  show (PyData.str x).depth = 0
  rw [PyData.depth]
/-- letters are texts as Python has them -/
def okLt : Stp → Prop
  | .lt c => PyData.strOk c = true
  | _ => True
def fine (n : Nat) (x : PV) : Prop := (toD x).depth ≤ n ∧ (toD x).canLay0 = true
theorem fine_non (n : Nat) : fine n .non := ⟨Nat.zero_le _, rfl⟩
theorem fine_str {x : Str} {n : Nat} (h : PyData.strOk x = true) : fine n (.str x) := ⟨by rw [depth_str]; exact Nat.zero_le _, h⟩
theorem fine_tup {xs : List PV} {n : Nat} (h : ∀ x ∈ xs, fine n x) : fine (n + 1) (.tup xs) := ⟨by rw [depth_tup]; exact Nat.succ_le_succ (depthAll_le fun x hx => (h x hx).1), by rw [lay_tup]; exact lay_all fun x hx => (h x hx).2⟩
theorem fine_mono {n m : Nat} {x : PV} (h : fine n x) (hn : n ≤ m) : fine m x := ⟨Nat.le_trans h.1 hn, h.2⟩
theorem fine_getD {n : Nat} {rs : List PV} (h : ∀ r ∈ rs, fine n r) (k : Nat) : fine n (rs.getD k .non) := by
  rw [List.getD_eq_getElem?_getD]
  cases e : rs[k]? with
  | none => exact fine_non n
  | some x => exact h x (List.mem_of_getElem? e)
theorem fine_rwOf {n : Nat} {rs : List PV} {st : Stp} (h : ∀ r ∈ rs, fine n r) (hs : okLt st) : fine (n + 2) (rwOf rs st) := by
  have hg := fine_getD h
  cases st with
  | lt c => exact fine_str hs
  | jn i j =>
    refine fine_tup fun x hx => ?_
    simp at hx
    rcases hx with rfl | rfl
    · exact fine_str ok_join
    · refine fine_tup fun y hy => ?_
      simp at hy
      rcases hy with rfl | rfl
      · have := hg i; simpa using this
      · have := hg j; simpa using this
  | rt i =>
    refine fine_mono (fine_tup (n := n) fun x hx => ?_) (by omega)
    simp at hx
    rcases hx with rfl | rfl
    · exact fine_str ok_right
    · have := hg i; simpa using this
  | lf i =>
    refine fine_mono (fine_tup (n := n) fun x hx => ?_) (by omega)
    simp at hx
    rcases hx with rfl | rfl
    · exact fine_str ok_left
    · have := hg i; simpa using this
  | mx ks =>
    refine fine_tup fun x hx => ?_
    simp at hx
    rcases hx with rfl | rfl
    · exact fine_str ok_mix
    · refine fine_tup fun y hy => ?_
      obtain ⟨k, _, rfl⟩ := List.mem_map.mp hy
      exact hg k
theorem fine_acc : ∀ (ss : List Stp) (rs : List PV) (n : Nat), (∀ r ∈ rs, fine n r) → (∀ st ∈ ss, okLt st) → ∀ r ∈ acc rwOf rs ss, fine (n + 2 * ss.length) r
  | [], rs, n, h, _ => h
  | st :: ss, rs, n, h, hs => by
    intro r hr
    have := fine_acc ss (rs ++ [rwOf rs st]) (n + 2) (fun x hx => by
      rcases List.mem_append.mp hx with hx | hx
      · exact fine_mono (h x hx) (by omega)
      · rw [List.mem_singleton] at hx
        subst hx
        exact fine_rwOf h (hs st (by simp))) (fun x hx => hs x (by simp [hx])) r hr
    exact fine_mono this (by rw [List.length_cons]; omega)
theorem fine_last {ss : List Stp} (hs : ∀ st ∈ ss, okLt st) (hl : ss.length ≤ 32) : shP (lastR ss) = true := by
  have h : fine 64 (lastR ss) := fine_getD (fun r hr => fine_mono (fine_acc ss [] 0 (by simp) hs r hr) (by omega)) _
  show (((toD (lastR ss)).canLay0) && decide ((toD (lastR ss)).depth ≤ 64)) = true
  rw [h.2, decide_eq_true h.1]; rfl
end K32
set_option Elab.async false
set_option linter.all false
set_option maxRecDepth 100000
namespace K32
open PySem L2 EV

theorem pick_ev {ρ : EnvP} {e : EE} {m : Nat} {t : Tag} (h0 : ρ[0]? = some (some (.src, false))) (he : ∀ s, e ρ s = .ok (.int (m : Int), t, s)) (ht : t.clean = true) (hm : 0 < m) (h2 : m < 1000000) (s : Src) :
    ∃ r s', r < m ∧ E.callN _law_pickF (E.cons (E.var 0) (E.cons e E.nil)) ρ s = .ok (nI r, .cl, s') := by
  obtain ⟨r, s', hr, hp⟩ := pick_nat (m := m) (s := s) hm h2
  refine ⟨r, s', hr, ?_⟩
  have hp' : _law_pickF [.src, .int (m : Int)] s = .ok (nI r, s') := hp
  have ht2 : newTag [(.src, .cl), (.int (m : Int), t)] (nI r) = .cl := newTag_cl (by simp [ht]) rfl
  simp [h0, he, hp', ht2]
theorem eq_too {rs : List PV} {st : Stp} : eqP (rwOf rs st) tooM = false := by
  cases st <;> simp [rwOf, tooM, eqP, toD, toDs, PyData.eqv, PyData.eqvAll]
structure Good (ss : List Stp) : Prop where
  wf : wfs 0 ss
  num : ∀ st ∈ ss, (nums st).length ≤ 1000
  lt : ∀ st ∈ ss, okLt st
theorem Good.snoc {ss : List Stp} {st : Stp} (g : Good ss) (h1 : wfAt ss.length st) (h2 : (nums st).length ≤ 1000) (h3 : okLt st) : Good (ss ++ [st]) :=
  ⟨wfs_app g.wf ⟨by rw [Nat.zero_add]; exact h1, trivial⟩, fun x hx => by
    rcases List.mem_append.mp hx with hx | hx
    · exact g.num x hx
    · rw [List.mem_singleton.mp hx]; exact h2, fun x hx => by
    rcases List.mem_append.mp hx with hx | hx
    · exact g.lt x hx
    · rw [List.mem_singleton.mp hx]; exact h3⟩
theorem Good.ok {ss : List Stp} (g : Good ss) (h0 : 0 < ss.length) (hl : ss.length ≤ 1000) : OkS ss := ⟨g.wf, h0, hl, g.num⟩
def letter (r : Nat) : Str := ⟨#[97 + r]⟩
theorem abcd_len : (("abcd" : Str).length : Int) = ((4 : Nat) : Int) := by decide +kernel
theorem letter_ix {r : Nat} (h : r < 4) (t : Tag) : ixF (.str "abcd") t (nI r) .cl = some (.str (letter r), .cl) := by
  have hz : ("abcd" : Str).cps.toList = [97, 98, 99, 100] := by decide +kernel
  show (atI ("abcd" : Str).cps.toList (r : Int)).map (fun c => (PV.str ⟨#[c]⟩, Tag.cl)) = _
  rw [hz]
  have : r = 0 ∨ r = 1 ∨ r = 2 ∨ r = 3 := by omega
  rcases this with rfl | rfl | rfl | rfl <;> rfl
theorem letter_ok {r : Nat} (h : r < 4) : PyData.strOk (letter r) = true := by
  have : r = 0 ∨ r = 1 ∨ r = 2 ∨ r = 3 := by omega
  rcases this with rfl | rfl | rfl | rfl <;> decide +kernel
abbrev drawB : ES := (Y.seq (Y.asg2 5 6 (E.callB lenF (E.cons (E.var 3) E.nil)) (E.callN _law_pickF (E.cons (E.var 0) (E.cons (E.cst (.int 6)) E.nil))))
    (Y.ite (E.bin ltF (E.var 6) (E.cst (.int 2)))
    (Y.append 3 (E.bin ixF (E.var 1) (E.callN _law_pickF (E.cons (E.var 0) (E.cons (E.callB lenF (E.cons (E.var 1) E.nil)) E.nil)))))
    (Y.ite (E.bin (eqF false) (E.var 6) (E.cst (.int 2)))
    (Y.append 3 (E.tup (E.cons (E.cst (.str "join")) (E.cons (E.callN _law_pickF (E.cons (E.var 0) (E.cons (E.var 5) E.nil))) (E.cons (E.callN _law_pickF (E.cons (E.var 0) (E.cons (E.var 5) E.nil))) E.nil)))))
    (Y.ite (E.bin (eqF false) (E.var 6) (E.cst (.int 3)))
    (Y.append 3 (E.tup (E.cons (E.bin ixF (E.lst (E.cons (E.cst (.str "right")) (E.cons (E.cst (.str "left")) E.nil))) (E.callN _law_pickF (E.cons (E.var 0) (E.cons (E.cst (.int 2)) E.nil)))) (E.cons (E.callN _law_pickF (E.cons (E.var 0) (E.cons (E.var 5) E.nil))) E.nil))))
    (Y.seq (Y.asg 7 (E.comp (I.args rng1F (E.cons (E.bin addF (E.cst (.int 1)) (E.callN _law_pickF (E.cons (E.var 0) (E.cons (E.cst (.int 3)) E.nil)))) E.nil)) (.nm 8) none (E.callN _law_pickF (E.cons (E.var 0) (E.cons (E.var 5) E.nil))) [8]))
    (Y.append 3 (E.tup (E.cons (E.cst (.str "mix")) (E.cons (E.callB tupleF (E.cons (E.comp (I.args rng1F (E.cons (E.var 5) E.nil)) (.nm 9) (some (E.bin (inF false) (E.var 9) (E.var 7))) (E.var 9) [9]) E.nil)) E.nil)))))))))
theorem shaped_nI (ns : List Nat) : SeqAt.shaped (.list (toDs (ns.map nI))) = true := by
  have h1 : PyData.depthAll (toDs (ns.map nI)) ≤ 0 := depthAll_le fun x hx => by
    obtain ⟨n, _, rfl⟩ := List.mem_map.mp hx
    exact Nat.le_refl 0
  have h2 : PyData.canLayAll0 (toDs (ns.map nI)) = true := lay_all fun x hx => by
    obtain ⟨n, _, rfl⟩ := List.mem_map.mp hx
    rfl
  show ((PyData.list (toDs (ns.map nI))).canLay0 && decide ((PyData.list (toDs (ns.map nI))).depth ≤ 64)) = true
  rw [PyData.canLay0, h2, PyData.depth, decide_eq_true (by omega)]; rfl
theorem inF_nI (ns : List Nat) (j : Nat) (t t' : Tag) : inF false (nI j) t (.lst (ns.map nI)) t' = some (.bl ((ns.map nI).any fun z => eqP z (nI j)), .cl) := by
  unfold inF
  dsimp only
  rw [if_pos (by rw [shaped_nI]; rfl)]
  cases ((ns.map nI).any fun z => eqP z (nI j)) <;> rfl
theorem comp_argsG {q : List (PV × Tag) → Option (List PV)} {fs : EEs} {c : Option EE} {f : EE} {i : Nat} {ρ : EnvP} {s s1 s2 : Src} {zs ys : List PV} {xs : List (PV × Tag)} {sl : Slot} (ha : fs ρ s = .ok (xs, s1)) (hs : q xs = some zs) (hi : ρ[i]? = some sl) (hn : pl sl)
    (h : compGo (.nm i) c f (wipeP ρ [i]) zs s1 = .ok (ys, s2)) : E.comp (I.args q fs) (.nm i) c f [i] ρ s = .ok (.lst ys, .fr, s2) := by
  unfold E.comp I.args
  rw [ha]
  dsimp only
  rw [hs]
  dsimp only
  have hu : [i].all (unflagged ρ) = true := by
    simp only [List.all_cons, List.all_nil, Bool.and_true]
    unfold unflagged
    rw [hi]
    split
    · rename_i heq
      exact absurd (Option.some.inj heq) (hn _)
    · rfl
  rw [if_pos hu, h]
theorem one_more {r : Nat} : addF (.int 1) .cl (nI r) .cl = some (nI (r + 1), .cl) := by
  show some (PV.int (1 + (r : Int)), Tag.cl) = some (PV.int ((r + 1 : Nat) : Int), Tag.cl)
  rw [show 1 + (r : Int) = ((r + 1 : Nat) : Int) by omega]
abbrev lotC : EE := E.comp (I.args rng1F (E.cons (E.bin addF (E.cst (.int 1)) (E.callN _law_pickF (E.cons (E.var 0) (E.cons (E.cst (.int 3)) E.nil)))) E.nil)) (.nm 8) none (E.callN _law_pickF (E.cons (E.var 0) (E.cons (E.var 5) E.nil))) [8]
abbrev mixC : EE := E.comp (I.args rng1F (E.cons (E.var 5) E.nil)) (.nm 9) (some (E.bin (inF false) (E.var 9) (E.var 7))) (E.var 9) [9]
theorem lot_args {ρ : EnvP} {sA sB : Src} {r3 : Nat} (eB : E.callN _law_pickF (E.cons (E.var 0) (E.cons (E.cst (.int 3)) E.nil)) ρ sA = .ok (nI r3, .cl, sB)) :
    (E.cons (E.bin addF (E.cst (.int 1)) (E.callN _law_pickF (E.cons (E.var 0) (E.cons (E.cst (.int 3)) E.nil)))) E.nil) ρ sA = .ok ([(nI (r3+1), .cl)], sB) := by
  rw [ev_cons, ev_bin, ev_cst, ev_rok, eB, ev_rok, one_more, ev_rok, ev_nil, ev_rok]
theorem lot_comp {ρ : EnvP} {sA sB sC : Src} {r3 : Nat} {lot : List PV} {fs : EEs} {f : EE} (hr3 : r3 < 3) (hi : ρ[8]? = some none) (eA : fs ρ sA = .ok ([(nI (r3+1), .cl)], sB))
    (eC : compGo (.nm 8) none f (wipeP ρ [8]) ((List.range (r3 + 1)).map nI) sB = .ok (lot, sC)) : E.comp (I.args rng1F fs) (.nm 8) none f [8] ρ sA = .ok (.lst lot, .fr, sC) :=
  comp_argsG (xs := [(nI (r3 + 1), .cl)]) (s1 := sB) (sl := none) eA (rng1_nat (by omega) _) hi pl_none eC
theorem lot_draw {ρ : EnvP} {n r3 : Nat} (h0 : 0 < n) (hn : n < 1000000) (k0 : ∀ z, ((wipeP ρ [8]).set 8 (some (z, false)))[0]? = some (some (.src, false))) (k5 : ∀ z s, E.var 5 ((wipeP ρ [8]).set 8 (some (z, false))) s = .ok (.int (n : Int), .cl, s)) (k8 : (wipeP ρ [8])[8]? = some none) (s : Src) :
    ∃ (lot : List Nat) (s' : Src), compGo (.nm 8) none (E.callN _law_pickF (E.cons (E.var 0) (E.cons (E.var 5) E.nil))) (wipeP ρ [8]) ((List.range (r3 + 1)).map nI) s = .ok (lot.map nI, s') := by
  obtain ⟨ys, sC, eC, yl, yq⟩ := compGo_draw (i := 8) (f := E.callN _law_pickF (E.cons (E.var 0) (E.cons (E.var 5) E.nil))) (ρ := wipeP ρ [8]) (sl := none) (fun _ y => ∃ j, j < n ∧ y = nI j) k8 pl_none ((List.range (r3 + 1)).map nI) 0 s fun k z s _ => by
    obtain ⟨j, s', hj, ej⟩ := pick_ev (ρ := (wipeP ρ [8]).set 8 (some (z, false))) (e := E.var 5) (m := n) (t := .cl) (k0 z) (k5 z) rfl h0 hn s
    exact ⟨nI j, .cl, s', ej, rfl, j, hj, rfl⟩
  refine ⟨ys.map fun y => match y with | .int n => n.toNat | _ => 0, sC, ?_⟩
  rw [eC]
  congr 2
  rw [List.map_map]
  conv => lhs; rw [← List.map_id ys]
  refine List.map_congr_left fun y hy => ?_
  obtain ⟨k, hk⟩ := List.getElem?_of_mem hy
  obtain ⟨j, _, rfl⟩ := yq k y hk
  rfl
theorem mix_comp {ρ : EnvP} {s : Src} {n : Nat} {lot : List Nat} (hn : n ≤ 100000) (h5 : E.var 5 ρ s = .ok (nI n, .cl, s)) (h9 : ρ[9]? = some none) (w9 : (wipeP ρ [9])[9]? = some none) (v9 : ∀ z, E.var 9 ((wipeP ρ [9]).set 9 (some (z, false))) s = .ok (z, .cl, s))
    (v7 : ∀ z, E.var 7 ((wipeP ρ [9]).set 9 (some (z, false))) s = .ok (.lst (lot.map nI), .own 7, s)) :
    mixC ρ s = .ok (.lst (((List.range n).filter fun j => (lot.map nI).any fun z => eqP z (nI j)).map nI), .fr, s) := by
  refine comp_argsG (xs := [(nI n, .cl)]) (s1 := s) (sl := none) ?_ (rng1_nat hn _) h9 pl_none ?_
  · rw [ev_cons, h5, ev_rok, ev_nil, ev_rok]
  · rw [compGo_if (sl := none) (p := fun z => (lot.map nI).any fun y => eqP y z) (g := id) w9 pl_none]
    · rw [List.map_id, List.filter_map]
      rfl
    · intro z hz
      obtain ⟨j, _, rfl⟩ := List.mem_map.mp hz
      refine ⟨.cl, ?_⟩
      rw [ev_bin, v9, ev_rok, v7, ev_rok]
      dsimp only
      rw [inF_nI]
    · intro z _ _
      exact ⟨.cl, v9 z, rfl⟩
theorem mix_tup {f : EE} {ρ : EnvP} {s s1 : Src} {js : List Nat} (h : f ρ s = .ok (.lst (js.map nI), .fr, s1)) : E.tup (E.cons (E.cst (.str "mix")) (E.cons (E.callB tupleF (E.cons f E.nil)) E.nil)) ρ s = .ok (enc (.mx js), .cl, s1) := by
  have s2 : (2 : Nat) ≤ sizeLine := small_le (by omega)
  have e1 : E.callB tupleF (E.cons f E.nil) ρ s = .ok (.tup (js.map nI), .cl, s1) := by
    rw [ev_callB, ev_cons, h, ev_rok, ev_nil, ev_rok]
    rfl
  rw [ev_tup, ev_cons, ev_cst, ev_rok, ev_cons, e1, ev_rok, ev_nil, ev_rok, ev_rok]
  show (if 2 ≤ sizeLine then Res.ok _ else .err) = _
  rw [if_pos s2]
  rfl
theorem mix_step {ss : List Stp} (h0 : 0 < ss.length) (hl : ss.length < 900) (a1 a2 x4 x6 x7 : Slot) (s : Src) :
    ∃ (js : List Nat) (y7 : Slot) (s' : Src), Y.seq (Y.asg 7 lotC) (Y.append 3 (E.tup (E.cons (E.cst (.str "mix")) (E.cons (E.callB tupleF (E.cons mixC E.nil)) E.nil)))) [some (.src, false), a1, a2, some (.lst (ss.map enc), true), x4, some (nI ss.length, false), x6, x7, none, none] s
      = .ok (.nx, [some (.src, false), a1, a2, some (.lst ((ss ++ [Stp.mx js]).map enc), true), x4, some (nI ss.length, false), x6, y7, none, none], s') ∧ (∀ j ∈ js, j < ss.length) ∧ js.length ≤ 1000 := by
  have hz : (ss.map enc).length < sizeLine := by rw [List.length_map]; exact small_lt (by omega)
  have s2 : (2 : Nat) ≤ sizeLine := small_le (by omega)
  obtain ⟨r3, sB, hr3, eB⟩ := pick_ev (ρ := [some (.src, false), a1, a2, some (.lst (ss.map enc), true), x4, some (nI ss.length, false), x6, x7, none, none]) (e := E.cst (.int 3)) (m := 3) (t := .cl) rfl (fun _ => rfl) rfl (by omega) (by omega) s
  obtain ⟨lot, sC, eC⟩ := lot_draw (ρ := [some (.src, false), a1, a2, some (.lst (ss.map enc), true), x4, some (nI ss.length, false), x6, x7, none, none]) (r3 := r3) h0 (by omega) (fun _ => rfl) (fun _ _ => rfl) rfl sB
  have ec := lot_comp hr3 rfl (lot_args eB) eC
  have ec2 := mix_comp (ρ := [some (.src, false), a1, a2, some (.lst (ss.map enc), true), x4, some (nI ss.length, false), x6, some (.lst (lot.map nI), true), none, none]) (s := sC) (n := ss.length) (lot := lot) (by omega) rfl rfl rfl (fun _ => rfl) (fun _ => rfl)
  refine ⟨(List.range ss.length).filter fun j => (lot.map nI).any fun z => eqP z (nI j), some (.lst (lot.map nI), true), sC, ?_, fun j hj => List.mem_range.mp (List.mem_filter.mp hj).1, ?_⟩
  · generalize ((List.range ss.length).filter fun j => (lot.map nI).any fun z => eqP z (nI j)) = js at ec2 ⊢
    have e7 : Y.asg 7 lotC [some (.src, false), a1, a2, some (.lst (ss.map enc), true), x4, some (nI ss.length, false), x6, x7, none, none] s = .ok (.nx, [some (.src, false), a1, a2, some (.lst (ss.map enc), true), x4, some (nI ss.length, false), x6, some (.lst (lot.map nI), true), none, none], sC) := by
      unfold lotC
      rw [ev_asg, ec, ev_bok]
      rfl
    have et : E.tup (E.cons (E.cst (.str "mix")) (E.cons (E.callB tupleF (E.cons mixC E.nil)) E.nil)) [some (.src, false), a1, a2, some (.lst (ss.map enc), true), x4, some (nI ss.length, false), x6, some (.lst (lot.map nI), true), none, none] sC = .ok (enc (.mx js), .cl, sC) := by
      exact mix_tup ec2
    rw [ev_seq, e7]
    dsimp only
    rw [ev_append]
    have l7 : lstAt [some (.src, false), a1, a2, some (.lst (ss.map enc), true), x4, some (nI ss.length, false), x6, some (.lst (lot.map nI), true), none, none] 3 = some (ss.map enc) := rfl
    rw [l7]
    dsimp only
    rw [et, ev_bok, if_pos ⟨rfl, hz⟩, List.map_append]
    rfl
  · have := List.length_filter_le (fun j => (lot.map nI).any fun z => eqP z (nI j)) (List.range ss.length)
    rw [List.length_range] at this
    omega
theorem draw_step {ss : List Stp} (g : Good ss) (h0 : 0 < ss.length) (hl : ss.length < 900) (x4 x5 x6 x7 : Slot) (s : Src) :
    ∃ (st : Stp) (y5 y6 y7 : Slot) (s' : Src), drawB [some (.src, false), some (.str "abcd", false), some (.int 8, false), some (.lst (ss.map enc), true), x4, x5, x6, x7, none, none] s = .ok (.nx, [some (.src, false), some (.str "abcd", false), some (.int 8, false), some (.lst ((ss ++ [st]).map enc), true), x4, y5, y6, y7, none, none], s') ∧
      wfAt ss.length st ∧ (nums st).length ≤ 1000 ∧ okLt st := by
  have hz : (ss.map enc).length < sizeLine := by rw [List.length_map]; exact small_lt (by omega)
  have s2 : (2 : Nat) ≤ sizeLine := small_le (by omega)
  have s3 : (3 : Nat) ≤ sizeLine := small_le (by omega)
  have hl5 : ss.length ≤ 100000 := by omega
  obtain ⟨r6, sA, hr6, eA⟩ := pick_ev (ρ := [some (.src, false), some (.str "abcd", false), some (.int 8, false), some (.lst (ss.map enc), true), x4, x5, x6, x7, none, none]) (e := E.cst (.int 6)) (m := 6) (t := .cl) rfl (fun _ => rfl) rfl (by omega) (by omega) s
  have eL : E.callB lenF (E.cons (E.var 3) E.nil) [some (.src, false), some (.str "abcd", false), some (.int 8, false), some (.lst (ss.map enc), true), x4, x5, x6, x7, none, none] s = .ok (nI ss.length, .cl, s) := by
    simp [lenF, nI]
  have e0 : Y.asg2 5 6 (E.callB lenF (E.cons (E.var 3) E.nil)) (E.callN _law_pickF (E.cons (E.var 0) (E.cons (E.cst (.int 6)) E.nil))) [some (.src, false), some (.str "abcd", false), some (.int 8, false), some (.lst (ss.map enc), true), x4, x5, x6, x7, none, none] s
      = .ok (.nx, [some (.src, false), some (.str "abcd", false), some (.int 8, false), some (.lst (ss.map enc), true), x4, some (nI ss.length, false), some (nI r6, false), x7, none, none], sA) := by
    unfold Y.asg2
    rw [eL, ev_bok]
    rw [eA, ev_bok]
    rfl
  generalize hρ : ([some (.src, false), some (.str "abcd", false), some (.int 8, false), some (.lst (ss.map enc), true), x4, some (nI ss.length, false), some (nI r6, false), x7, none, none] : EnvP) = ρ at e0
  have k5 : ∀ (s : Src), E.var 5 ρ s = .ok (.int (ss.length : Int), .cl, s) := fun s => by rw [← hρ]; rfl
  have k0 : ρ[0]? = some (some (.src, false)) := by rw [← hρ]; rfl
  unfold drawB
  rw [ev_seq, e0]
  dsimp only
  have c2 : ∀ (s : Src), E.bin ltF (E.var 6) (E.cst (.int 2)) ρ s = .ok (.bl (decide ((r6 : Int) < 2)), .cl, s) := fun s => by rw [← hρ]; rfl
  have q2 : ∀ (n : Int) (s : Src), E.bin (eqF false) (E.var 6) (E.cst (.int n)) ρ s = .ok (.bl (false != ((r6 : Int) == n)), .cl, s) := fun n s => by rw [← hρ]; rfl
  have l3 : lstAt ρ 3 = some (ss.map enc) := by rw [← hρ]; rfl
  -- the item, then the end
  have fin : ∀ {f : EE} {st : Stp} {t : Tag} {s1 s2 : Src}, f ρ s1 = .ok (enc st, t, s2) → t.clean = true → Y.append 3 f ρ s1 = .ok (.nx, ρ.set 3 (some (.lst ((ss ++ [st]).map enc), true)), s2) := fun {f st t s1 s2} ef ht => by
    rw [ev_append, l3]
    dsimp only
    rw [ef, ev_bok, if_pos ⟨by rw [ht]; rfl, hz⟩, List.map_append]
    rfl
  have fin2 : ∀ st : Stp, ρ.set 3 (some (.lst ((ss ++ [st]).map enc), true)) = [some (.src, false), some (.str "abcd", false), some (.int 8, false), some (.lst ((ss ++ [st]).map enc), true), x4, some (nI ss.length, false), some (nI r6, false), x7, none, none] := fun st => by rw [← hρ]; rfl
  rw [ev_if, c2, ev_bok]
  by_cases h2 : r6 < 2
  · rw [decide_eq_true (by omega : (r6 : Int) < 2)]
    dsimp only
    obtain ⟨r, sB, hr, eB⟩ := pick_ev (ρ := ρ) (e := E.callB lenF (E.cons (E.var 1) E.nil)) (m := 4) (t := .cl) k0 (fun s => by rw [← hρ]; simp [lenF, abcd_len]) rfl (by omega) (by omega) sA
    refine ⟨.lt (letter r), some (nI ss.length, false), some (nI r6, false), x7, sB, ?_, fun n hn => (by simp [nums] at hn), (by simp [nums]), letter_ok hr⟩
    rw [fin (st := .lt (letter r)) (t := .cl) (s2 := sB) ?_ rfl, fin2]
    have e1 : E.var 1 ρ sA = .ok (.str "abcd", .cl, sA) := by rw [← hρ]; rfl
    rw [ev_bin, e1, ev_rok]
    rw [eB, ev_rok]
    dsimp only
    rw [letter_ix hr]
    rfl
  · rw [decide_eq_false (by omega : ¬ (r6 : Int) < 2)]
    dsimp only
    rw [ev_if, q2, ev_bok]
    by_cases h3 : r6 = 2
    · subst h3
      obtain ⟨i, sB, hi, eB⟩ := pick_ev (ρ := ρ) (e := E.var 5) (m := ss.length) (t := .cl) k0 k5 rfl h0 (by omega) sA
      obtain ⟨j, sC, hj, eC⟩ := pick_ev (ρ := ρ) (e := E.var 5) (m := ss.length) (t := .cl) k0 k5 rfl h0 (by omega) sB
      refine ⟨.jn i j, some (nI ss.length, false), some (nI 2, false), x7, sC, ?_, fun n hn => ?_, by simp [nums], trivial⟩
      · show Y.append 3 _ ρ sA = _
        rw [fin (st := .jn i j) (t := .cl) (s2 := sC) ?_ rfl, fin2]
        rw [ev_tup]
        rw [ev_cons, ev_cst, ev_rok, ev_cons, eB, ev_rok, ev_cons, eC, ev_rok, ev_nil]
        simp [s3, enc, dispTag]
      · simp [nums] at hn
        rcases hn with rfl | rfl
        · exact hi
        · exact hj
    · have hq : ((r6 : Int) == 2) = false := by
        rw [beq_eq_false_iff_ne]
        omega
      rw [hq]
      show ∃ st y5 y6 y7 s', Y.ite _ _ _ ρ sA = _ ∧ _
      rw [ev_if, q2, ev_bok]
      by_cases h4 : r6 = 3
      · subst h4
        obtain ⟨d, sB, hd, eB⟩ := pick_ev (ρ := ρ) (e := E.cst (.int 2)) (m := 2) (t := .cl) k0 (fun _ => rfl) rfl (by omega) (by omega) sA
        obtain ⟨i, sC, hi, eC⟩ := pick_ev (ρ := ρ) (e := E.var 5) (m := ss.length) (t := .cl) k0 k5 rfl h0 (by omega) sB
        have hd' : d = 0 ∨ d = 1 := by omega
        refine ⟨if d = 0 then .rt i else .lf i, some (nI ss.length, false), some (nI 3, false), x7, sC, ?_, fun n hn => ?_, ?_, ?_⟩
        · show Y.append 3 _ ρ sA = _
          rw [fin (st := if d = 0 then .rt i else .lf i) (t := .cl) (s2 := sC) ?_ rfl, fin2]
          have el : E.lst (E.cons (E.cst (.str "right")) (E.cons (E.cst (.str "left")) E.nil)) ρ sA = .ok (.lst [.str "right", .str "left"], .fr, sA) := by
            simp [s2]
          have ei : E.bin ixF (E.lst (E.cons (E.cst (.str "right")) (E.cons (E.cst (.str "left")) E.nil))) (E.callN _law_pickF (E.cons (E.var 0) (E.cons (E.cst (.int 2)) E.nil))) ρ sA = .ok (if d = 0 then .str "right" else .str "left", .cl, sB) := by
            rw [ev_bin, el, ev_rok, eB, ev_rok]
            rcases hd' with rfl | rfl
            · have := ixF_lst (xs := [PV.str "right", .str "left"]) (k := 0) (z := .str "right") (t := .fr) (t' := .cl) rfl
              unfold nI
              simp only [this]
              rfl
            · have := ixF_lst (xs := [PV.str "right", .str "left"]) (k := 1) (z := .str "left") (t := .fr) (t' := .cl) rfl
              unfold nI
              simp only [this]
              rfl
          rw [ev_tup]
          rw [ev_cons, ei, ev_rok, ev_cons, eC, ev_rok, ev_nil]
          rcases hd' with rfl | rfl <;> simp [s2, enc, dispTag]
        · rcases hd' with rfl | rfl <;> simp [nums] at hn <;> rw [hn] <;> exact hi
        · rcases hd' with rfl | rfl <;> simp [nums]
        · rcases hd' with rfl | rfl <;> trivial
      · have hq3 : ((r6 : Int) == 3) = false := by
          rw [beq_eq_false_iff_ne]
          omega
        rw [hq3]
        show ∃ st y5 y6 y7 s', Y.seq _ _ ρ sA = _ ∧ _
        obtain ⟨js, y7, sB, e, h1, h2⟩ := mix_step h0 hl (some (.str "abcd", false)) (some (.int 8, false)) x4 (some (nI r6, false)) x7 sA
        exact ⟨.mx js, _, _, y7, sB, by rw [← hρ]; exact e, h1, h2, trivial⟩
end K32
set_option Elab.async false
set_option linter.all false
set_option maxRecDepth 100000
namespace K32
open PySem L2 EV

/-! ### the draw -/
theorem draw_loop {b : ES} {a0 a1 a2 : Slot} (hb : ∀ (ss : List Stp) (x4 x5 x6 x7 : Slot) (s : Src), Good ss → 0 < ss.length → ss.length < 900 →
    ∃ (st : Stp) (y5 y6 y7 : Slot) (s' : Src), b [a0, a1, a2, some (.lst (ss.map enc), true), x4, x5, x6, x7, none, none] s = .ok (.nx, [a0, a1, a2, some (.lst ((ss ++ [st]).map enc), true), x4, y5, y6, y7, none, none], s') ∧ wfAt ss.length st ∧ (nums st).length ≤ 1000 ∧ okLt st) :
    ∀ (zs : List PV) (ss : List Stp) (x4 x5 x6 x7 : Slot) (s : Src), pl x4 → Good ss → 0 < ss.length → ss.length + zs.length < 900 →
    ∃ (ss' : List Stp) (y4 y5 y6 y7 : Slot) (s' : Src), forGo (.nm 4) b zs [a0, a1, a2, some (.lst (ss.map enc), true), x4, x5, x6, x7, none, none] s = .ok (.nx, [a0, a1, a2, some (.lst (ss'.map enc), true), y4, y5, y6, y7, none, none], s') ∧ Good ss' ∧ ss'.length = ss.length + zs.length
  | [], ss, x4, x5, x6, x7, s, _, g, _, _ => ⟨ss, x4, x5, x6, x7, s, rfl, g, rfl⟩
  | z :: zs, ss, x4, x5, x6, x7, s, p4, g, h0, hl => by
    rw [List.length_cons] at hl
    obtain ⟨st, y5, y6, y7, s1, e1, h1, h2, h3⟩ := hb ss (some (z, false)) x5 x6 x7 s g h0 (by omega)
    obtain ⟨ss', z4, z5, z6, z7, s2, e2, g2, l2⟩ := draw_loop hb zs (ss ++ [st]) (some (z, false)) y5 y6 y7 s1 (pl_some _) (g.snoc h1 h2 h3) (by rw [List.length_append]; omega) (by rw [List.length_append, List.length_singleton]; omega)
    refine ⟨ss', z4, z5, z6, z7, s2, ?_, g2, by rw [l2, List.length_append, List.length_singleton, List.length_cons]; omega⟩
    unfold forGo
    rw [set_nm z (sl := x4) rfl p4]
    dsimp only [List.set]
    rw [e1]
    exact e2
theorem for_args {q : List (PV × Tag) → Option (List PV)} {fs : EEs} {t : Tg} {b : ES} {ρ : EnvP} {s s1 : Src} {xs : List (PV × Tag)} {zs : List PV} (ha : fs ρ s = .ok (xs, s1)) (hq : q xs = some zs) : Y.for (I.args q fs) t b ρ s = forGo t b zs ρ s1 := by
  unfold Y.for I.args
  rw [ha]
  dsimp only
  rw [hq]
  rfl
theorem seq_nx {u v : ES} {ρ ρ1 : EnvP} {s s1 : Src} (h : u ρ s = .ok (.nx, ρ1, s1)) : Y.seq u v ρ s = v ρ1 s1 := by
  rw [ev_seq, h]
theorem one_arg {f : EE} {ρ : EnvP} {s s1 : Src} {x : PV} {t : Tag} (h : f ρ s = .ok (x, t, s1)) : E.cons f E.nil ρ s = .ok ([(x, t)], s1) := by
  rw [ev_cons, h, ev_rok, ev_nil, ev_rok]
theorem draw_ok (s : Src) : ∃ (ss : List Stp) (s' : Src), _law_draw_stepsF [.src, .str "abcd", .int 8] s = .ok (encs ss, s') ∧ Good ss ∧ 0 < ss.length ∧ ss.length ≤ 8 := by
  obtain ⟨r, s1, hr, e1⟩ := pick_ev (ρ := [some (.src, false), some (.str "abcd", false), some (.int 8, false), none, none, none, none, none, none, none]) (e := E.callB lenF (E.cons (E.var 1) E.nil)) (m := 4) (t := .cl) rfl (fun s => by simp [lenF, abcd_len]) rfl (by omega) (by omega) s
  have s1' : (1 : Nat) ≤ sizeLine := small_le (by omega)
  have ex : E.bin ixF (E.var 1) (E.callN _law_pickF (E.cons (E.var 0) (E.cons (E.callB lenF (E.cons (E.var 1) E.nil)) E.nil))) [some (.src, false), some (.str "abcd", false), some (.int 8, false), none, none, none, none, none, none, none] s = .ok (.str (letter r), .cl, s1) := by
    have ev : E.var 1 [some (.src, false), some (.str "abcd", false), some (.int 8, false), none, none, none, none, none, none, none] s = .ok (.str "abcd", .cl, s) := rfl
    rw [ev_bin, ev, ev_rok]
    dsimp only
    rw [e1, ev_rok]
    dsimp only
    rw [letter_ix hr]
  have ea : Y.asg 3 (E.lst (E.cons (E.bin ixF (E.var 1) (E.callN _law_pickF (E.cons (E.var 0) (E.cons (E.callB lenF (E.cons (E.var 1) E.nil)) E.nil)))) E.nil)) [some (.src, false), some (.str "abcd", false), some (.int 8, false), none, none, none, none, none, none, none] s
      = .ok (.nx, [some (.src, false), some (.str "abcd", false), some (.int 8, false), some (.lst ([Stp.lt (letter r)].map enc), true), none, none, none, none, none, none], s1) := by
    rw [ev_asg, ev_lst, one_arg ex]
    dsimp only
    rw [if_pos ⟨s1', rfl⟩, ev_bok]
    rfl
  obtain ⟨n, s2, hn, e2⟩ := pick_ev (ρ := [some (.src, false), some (.str "abcd", false), some (.int 8, false), some (.lst ([Stp.lt (letter r)].map enc), true), none, none, none, none, none, none]) (e := E.var 2) (m := 8) (t := .cl) rfl (fun _ => rfl) rfl (by omega) (by omega) s1
  have g0 : Good [Stp.lt (letter r)] := ⟨⟨fun n hn => (by simp [nums] at hn), trivial⟩, fun st h => by
    rw [List.mem_singleton.mp h]; simp [nums], fun st h => by
    rw [List.mem_singleton.mp h]; exact letter_ok hr⟩
  obtain ⟨ss, y4, y5, y6, y7, s3, e3, g, hl⟩ := draw_loop (b := drawB) (fun ss x4 x5 x6 x7 s g h0 hl => draw_step g h0 hl x4 x5 x6 x7 s) ((List.range n).map nI) [Stp.lt (letter r)] none none none none s2 pl_none g0 (by simp) (by simp; omega)
  refine ⟨ss, s3, ?_, g, by rw [hl, List.length_singleton]; omega, by rw [hl, List.length_singleton, List.length_map, List.length_range]; omega⟩
  have ef := for_args (t := .nm 4) (b := drawB) (one_arg e2) (rng1_nat (n := n) (by omega) .cl)
  rw [e3] at ef
  have er : Y.ret (E.callB tupleF (E.cons (E.var 3) E.nil)) [some (.src, false), some (.str "abcd", false), some (.int 8, false), some (.lst (ss.map enc), true), y4, y5, y6, y7, none, none] s3 = .ok (.ret (encs ss), [some (.src, false), some (.str "abcd", false), some (.int 8, false), some (.lst (ss.map enc), true), y4, y5, y6, y7, none, none], s3) := by
    rw [ev_ret, ev_callB]
    rfl
  unfold _law_draw_stepsF
  rw [ev_run, if_pos (show [PV.src, .str "abcd", .int 8].length = 3 from rfl)]
  unfold _law_draw_stepsB
  have e0 : startP 10 [.src, .str "abcd", .int 8] = [some (.src, false), some (.str "abcd", false), some (.int 8, false), none, none, none, none, none, none, none] := rfl
  rw [e0, seq_nx ea, seq_nx ef, er]

/-! ### the tests of the law -/
theorem ev_ne {fa fb : EE} {ρ : EnvP} {s s1 s2 : Src} {x y : PV} {t u : Tag} {n : Bool} {b : Bool} (ha : fa ρ s = .ok (x, t, s1)) (hb : fb ρ s1 = .ok (y, u, s2)) (h : eqF n x t y u = some (.bl b, .cl)) : E.bin (eqF n) fa fb ρ s = .ok (.bl b, .cl, s2) := by
  rw [ev_bin, ha, ev_rok]
  dsimp only
  rw [hb, ev_rok]
  dsimp only
  rw [h]
theorem ev_orF {fa fb : EE} {ρ : EnvP} {s s1 : Src} {r : Res Rv} {t : Tag} (ha : fa ρ s = .ok (.bl false, t, s1)) (hb : fb ρ s1 = r) : E.or fa fb ρ s = r := by
  rw [ev_or, ha, ev_rok]
  exact hb
theorem ev_andT {fa fb : EE} {ρ : EnvP} {s s1 : Src} {r : Res Rv} {t : Tag} (ha : fa ρ s = .ok (.bl true, t, s1)) (hb : fb ρ s1 = r) : E.and fa fb ρ s = r := by
  rw [ev_and, ha, ev_rok]
  exact hb
theorem ev_andF {fa fb : EE} {ρ : EnvP} {s s1 : Src} {t : Tag} (ha : fa ρ s = .ok (.bl false, t, s1)) : E.and fa fb ρ s = .ok (.bl false, .cl, s1) := by
  rw [ev_and, ha, ev_rok]
theorem if_no {c : EE} {u v : ES} {ρ : EnvP} {s s1 : Src} {t : Tag} {r : Res (Flw × EnvP × Src)} (hc : c ρ s = .ok (.bl false, t, s1)) (hv : v ρ s1 = r) : Y.ite c u v ρ s = r := by
  rw [ev_if, hc, ev_bok]
  exact hv
theorem call1 {fn : Fun1} {f : EE} {ρ : EnvP} {s s1 s2 : Src} {x r : PV} {t : Tag} (h : f ρ s = .ok (x, t, s1)) (hf : fn [x] s1 = .ok (r, s2)) : E.callN fn (E.cons f E.nil) ρ s = .ok (r, newTag [(x, t)] r, s2) := by
  rw [ev_callN, one_arg h]
  dsimp only [List.map]
  rw [hf]
theorem noBox_rw {rs : List PV} {st : Stp} : noBox (rwOf rs st) = true := by cases st <;> rfl
theorem last_rwOf {ss : List Stp} (o : OkS ss) : ∃ st, lastR ss = rwOf (rows ss) st := by
  have : ss.length - 1 < ss.length := by have := o.pos; omega
  exact ⟨_, rw_eq o.wf (List.getElem?_eq_getElem this)⟩
/-- what _law_tried and the law's own road say -/
def dueP (ss : List Stp) : PV := if lastZ ss ≤ 200 then lastR ss else tooM
theorem sh_too : shP tooM = true := by decide +kernel
theorem noBox_due {ss : List Stp} (o : OkS ss) : noBox (dueP ss) = true := by
  unfold dueP
  obtain ⟨st, h⟩ := last_rwOf o
  split
  · rw [h]; exact noBox_rw
  · rfl
theorem sh_due {ss : List Stp} (hs : ∀ st ∈ ss, okLt st) (hl : ss.length ≤ 32) : shP (dueP ss) = true := by
  unfold dueP
  split
  · exact fine_last hs hl
  · exact sh_too
theorem due_too {ss : List Stp} (o : OkS ss) : eqP (dueP ss) tooM = decide (¬ lastZ ss ≤ 200) := by
  unfold dueP
  split
  · rename_i h
    obtain ⟨st, e⟩ := last_rwOf o
    rw [e, eq_too]
    simp [h]
  · rename_i h
    rw [show eqP tooM tooM = true from SeqAt.eqv_refl _ (SeqAt.canLay_of_shaped sh_too)]
    simp [h]
theorem eqF_too {ss : List Stp} (o : OkS ss) (hs : shP (dueP ss) = true) (n : Bool) (t u : Tag) : eqF n (dueP ss) t tooM u = some (.bl (n != decide (¬ lastZ ss ≤ 200)), .cl) := by
  unfold eqF
  rw [hs, sh_too, due_too o]
  rfl
theorem tag_cl {x r : PV} (h : noBox r = true) : newTag [(x, .cl)] r = .cl := newTag_cl rfl h
/-- calls on the steps in slot i -/
theorem call_tried {ss : List Stp} (o : OkS ss) {f : EE} {ρ : EnvP} {s : Src} (h : f ρ s = .ok (encs ss, .cl, s)) : E.callN _law_triedF (E.cons f E.nil) ρ s = .ok (dueP ss, .cl, s) := by
  rw [call1 h (tried_ok o s)]
  show Res.ok (dueP ss, newTag [(encs ss, .cl)] (dueP ss), s) = _
  rw [tag_cl (noBox_due o)]
theorem call_size {ss : List Stp} (o : OkS ss) {f : EE} {ρ : EnvP} {s : Src} (h : f ρ s = .ok (encs ss, .cl, s)) : E.callN _law_sizeF (E.cons f E.nil) ρ s = .ok (nI (lastZ ss), .cl, s) := by
  rw [call1 h (size_last o s), ev_tag4]
theorem noBox_last {ss : List Stp} (o : OkS ss) : noBox (lastR ss) = true := by
  obtain ⟨st, h⟩ := last_rwOf o
  rw [h]; exact noBox_rw
theorem call_told {ss : List Stp} (o : OkS ss) {f : EE} {ρ : EnvP} {s : Src} (h : f ρ s = .ok (encs ss, .cl, s)) : E.callN _law_told_rowF (E.cons f E.nil) ρ s = .ok (lastR ss, .cl, s) := by
  rw [call1 h (told_last o s), tag_cl (noBox_last o)]
theorem call_row {ss : List Stp} (o : OkS ss) (hz : lastZ ss ≤ 200) {f : EE} {ρ : EnvP} {s : Src} (h : f ρ s = .ok (encs ss, .cl, s)) : E.callN row_ofF (E.cons f E.nil) ρ s = .ok (lastR ss, .cl, s) := by
  have e := row_of_ok o s
  rw [if_pos hz] at e
  rw [call1 h e, tag_cl (noBox_last o)]
theorem call_size_of {ss : List Stp} (o : OkS ss) (hz : lastZ ss ≤ 200) {f : EE} {ρ : EnvP} {s : Src} (h : f ρ s = .ok (encs ss, .cl, s)) : E.callN size_ofF (E.cons (E.callN row_ofF (E.cons f E.nil)) E.nil) ρ s = .ok (nI (lastZ ss), .cl, s) := by
  rw [call1 (call_row o hz h) (size_of_last o s hz), ev_tag4]
theorem too_ev {ρ : EnvP} {s : Src} : E.tup (E.cons (E.cst (.str "too many")) E.nil) ρ s = .ok (tooM, .cl, s) := by
  have s1 : (1 : Nat) ≤ sizeLine := small_le (by omega)
  rw [ev_tup, one_arg (ev_cst _ _ _)]
  show (if 1 ≤ sizeLine then Res.ok _ else .err) = _
  rw [if_pos s1]
  rfl
theorem beq_nI (n : Nat) : ((n : Int) == (n : Int)) = true := by simp
theorem ne_nI (n : Nat) (t u : Tag) : eqF true (nI n) t (nI n) u = some (.bl false, .cl) := by
  show some (PV.bl (true != ((n : Int) == (n : Int))), Tag.cl) = _
  rw [beq_nI]; rfl
end K32
set_option Elab.async false
set_option linter.all false
set_option maxRecDepth 100000
namespace K32
open PySem L2 EV

/-! ### three draws -/
abbrev lawB1 : ES := (Y.seq (Y.asg 6 (E.callN _law_draw_stepsF (E.cons (E.var 1) (E.cons (E.cst (.str "abcd")) (E.cons (E.cst (.int 8)) E.nil)))))
    (Y.seq (Y.asg 7 (E.ite (E.bin ltF (E.callN _law_sizeF (E.cons (E.var 6) E.nil)) (E.cst (.int 201))) (E.callN _law_told_rowF (E.cons (E.var 6) E.nil)) (E.tup (E.cons (E.cst (.str "too many")) E.nil))))
    (Y.ite (E.or (E.bin (eqF true) (E.callN _law_triedF (E.cons (E.var 6) E.nil)) (E.var 7)) (E.and (E.bin (eqF true) (E.var 7) (E.tup (E.cons (E.cst (.str "too many")) E.nil))) (E.bin (eqF true) (E.callN size_ofF (E.cons (E.callN row_ofF (E.cons (E.var 6) E.nil)) E.nil)) (E.callN _law_sizeF (E.cons (E.var 6) E.nil)))))
    (Y.ret (E.cst (.bl false)))
    Y.nop)))
theorem lt_nI (n : Nat) (m : Int) (t u : Tag) : ltF (nI n) t (.int m) u = some (.bl (decide ((n : Int) < m)), .cl) := rfl
theorem gt_nI (n : Nat) (m : Int) (t u : Tag) : gtF (nI n) t (.int m) u = some (.bl (decide (m < (n : Int))), .cl) := rfl
theorem due_ev {ss : List Stp} (o : OkS ss) {f : EE} {ρ : EnvP} {s : Src} (h : f ρ s = .ok (encs ss, .cl, s)) :
    E.ite (E.bin ltF (E.callN _law_sizeF (E.cons f E.nil)) (E.cst (.int 201))) (E.callN _law_told_rowF (E.cons f E.nil)) (E.tup (E.cons (E.cst (.str "too many")) E.nil)) ρ s = .ok (dueP ss, .cl, s) := by
  have hc : E.bin ltF (E.callN _law_sizeF (E.cons f E.nil)) (E.cst (.int 201)) ρ s = .ok (.bl (decide ((lastZ ss : Int) < 201)), .cl, s) := by
    rw [ev_bin, call_size o h, ev_rok, ev_cst, ev_rok]
    dsimp only
    rw [lt_nI]
  rw [ev_ite, hc, ev_rok]
  unfold dueP
  by_cases hz : lastZ ss ≤ 200
  · rw [if_pos hz, decide_eq_true (by omega : (lastZ ss : Int) < 201)]
    exact call_told o h
  · rw [if_neg hz, decide_eq_false (by omega : ¬ (lastZ ss : Int) < 201)]
    exact too_ev
theorem cond1 {ss : List Stp} (o : OkS ss) (hs : shP (dueP ss) = true) {f d : EE} {ρ : EnvP} {s : Src} (h : f ρ s = .ok (encs ss, .cl, s)) (hd : d ρ s = .ok (dueP ss, .cl, s)) :
    E.or (E.bin (eqF true) (E.callN _law_triedF (E.cons f E.nil)) d) (E.and (E.bin (eqF true) d (E.tup (E.cons (E.cst (.str "too many")) E.nil))) (E.bin (eqF true) (E.callN size_ofF (E.cons (E.callN row_ofF (E.cons f E.nil)) E.nil)) (E.callN _law_sizeF (E.cons f E.nil)))) ρ s = .ok (.bl false, .cl, s) := by
  refine ev_orF (ev_ne (call_tried o h) hd (eqF_same hs)) ?_
  by_cases hz : lastZ ss ≤ 200
  · refine ev_andT (ev_ne hd too_ev (b := true) ?_) (ev_ne (call_size_of o hz h) (call_size o h) (ne_nI _ _ _))
    rw [eqF_too o hs]
    simp [hz]
  · refine ev_andF (ev_ne hd too_ev (b := false) ?_)
    rw [eqF_too o hs]
    simp [hz]
theorem body1 (x2 x6 x7 : Slot) (s : Src) : ∃ (y6 y7 : Slot) (s' : Src), lawB1 [none, some (.src, false), x2, none, none, none, x6, x7, none, none] s = .ok (.nx, [none, some (.src, false), x2, none, none, none, y6, y7, none, none], s') := by
  obtain ⟨ss, s1, e, g, h0, hl⟩ := draw_ok s
  have o := g.ok h0 (by omega)
  have hs := sh_due g.lt (by omega : ss.length ≤ 32)
  have eD : Y.asg 6 (E.callN _law_draw_stepsF (E.cons (E.var 1) (E.cons (E.cst (.str "abcd")) (E.cons (E.cst (.int 8)) E.nil)))) [none, some (.src, false), x2, none, none, none, x6, x7, none, none] s = .ok (.nx, [none, some (.src, false), x2, none, none, none, some (encs ss, false), x7, none, none], s1) := by
    have ea : E.cons (E.var 1) (E.cons (E.cst (.str "abcd")) (E.cons (E.cst (.int 8)) E.nil)) [none, some (.src, false), x2, none, none, none, x6, x7, none, none] s = .ok ([(.src, .cl), (.str "abcd", .cl), (.int 8, .cl)], s) := rfl
    have et : newTag [(.src, .cl), (.str "abcd", .cl), (.int 8, .cl)] (encs ss) = .cl := newTag_cl rfl rfl
    rw [ev_asg, ev_callN, ea]
    dsimp only [List.map]
    rw [e]
    dsimp only
    rw [et, ev_bok]
    rfl
  have eI : Y.asg 7 (E.ite (E.bin ltF (E.callN _law_sizeF (E.cons (E.var 6) E.nil)) (E.cst (.int 201))) (E.callN _law_told_rowF (E.cons (E.var 6) E.nil)) (E.tup (E.cons (E.cst (.str "too many")) E.nil))) [none, some (.src, false), x2, none, none, none, some (encs ss, false), x7, none, none] s1 = .ok (.nx, [none, some (.src, false), x2, none, none, none, some (encs ss, false), some (dueP ss, false), none, none], s1) := by
    rw [ev_asg, due_ev o rfl, ev_bok]
    rfl
  refine ⟨some (encs ss, false), some (dueP ss, false), s1, ?_⟩
  unfold lawB1
  rw [seq_nx eD, seq_nx eI]
  exact if_no (cond1 o hs rfl rfl) rfl
/-! ### the grown steps -/
theorem sum_one (l r : Nat) (h : 0 < l) : ((l : Int) - 1) - ((r : Int).fmod (l : Int)) = ((l - 1 - r % l : Nat) : Int) := by
  have h1 : (r : Int).fmod (l : Int) = ((r % l : Nat) : Int) := by
    rw [Int.fmod_eq_emod_of_nonneg _ (by omega)]
    exact (Int.natCast_emod r l).symm
  have h2 : r % l < l := Nat.mod_lt _ h
  rw [h1]
  omega
abbrev joinE : EE := E.tup (E.cons (E.cst (.str "join")) (E.cons (E.bin subF (E.callB lenF (E.cons (E.var 3) E.nil)) (E.cst (.int 1))) (E.cons (E.bin subF (E.bin subF (E.callB lenF (E.cons (E.var 3) E.nil)) (E.cst (.int 1))) (E.bin modF (E.callN _law_pickF (E.cons (E.var 1) (E.cons (E.cst (.int 2)) E.nil))) (E.callB lenF (E.cons (E.var 3) E.nil)))) E.nil)))
theorem pick_ev1 {ρ : EnvP} {e : EE} {m i : Nat} {t : Tag} (h0 : ρ[i]? = some (some (.src, false))) (he : ∀ s, e ρ s = .ok (.int (m : Int), t, s)) (ht : t.clean = true) (hm : 0 < m) (h2 : m < 1000000) (s : Src) :
    ∃ r s', r < m ∧ E.callN _law_pickF (E.cons (E.var i) (E.cons e E.nil)) ρ s = .ok (nI r, .cl, s') := by
  obtain ⟨r, s', hr, hp⟩ := pick_nat (m := m) (s := s) hm h2
  refine ⟨r, s', hr, ?_⟩
  have hp' : _law_pickF [.src, .int (m : Int)] s = .ok (nI r, s') := hp
  have ht2 : newTag [(.src, .cl), (.int (m : Int), t)] (nI r) = .cl := newTag_cl (by simp [ht]) rfl
  simp [h0, he, hp', ht2]
theorem join_ev {ss : List Stp} {ρ : EnvP} (h1 : ρ[1]? = some (some (.src, false))) (h3 : ∀ s, E.var 3 ρ s = .ok (.lst (ss.map enc), .own 3, s)) (h0 : 0 < ss.length) (s : Src) :
    ∃ (i j : Nat) (s' : Src), joinE ρ s = .ok (enc (.jn i j), .cl, s') ∧ i < ss.length ∧ j < ss.length := by
  have hlen : ∀ s, E.callB lenF (E.cons (E.var 3) E.nil) ρ s = .ok (.int (ss.length : Int), .cl, s) := fun s => by
    rw [ev_callB, one_arg (h3 s)]
    show Res.ok (PV.int ((ss.map enc).length : Int), Tag.cl, s) = _
    rw [List.length_map]
  have hsub : ∀ s, E.bin subF (E.callB lenF (E.cons (E.var 3) E.nil)) (E.cst (.int 1)) ρ s = .ok (.int ((ss.length : Int) - 1), .cl, s) := fun s => by
    rw [ev_bin, hlen, ev_rok, ev_cst, ev_rok]
    rfl
  obtain ⟨r, s1, hr, er⟩ := pick_ev1 (e := E.cst (.int 2)) (m := 2) (t := .cl) h1 (fun _ => rfl) rfl (by omega) (by omega) s
  have hmod : E.bin modF (E.callN _law_pickF (E.cons (E.var 1) (E.cons (E.cst (.int 2)) E.nil))) (E.callB lenF (E.cons (E.var 3) E.nil)) ρ s = .ok (.int ((r : Int).fmod (ss.length : Int)), .cl, s1) := by
    rw [ev_bin, er, ev_rok]
    dsimp only
    rw [hlen, ev_rok]
    show (match (if (ss.length : Int) = 0 then none else some (PV.int ((r : Int).fmod (ss.length : Int)), Tag.cl)) with
      | some z => Res.ok (z.1, z.2, s1)
      | none => .err) = _
    rw [if_neg (by omega)]
  have hs2 : E.bin subF (E.bin subF (E.callB lenF (E.cons (E.var 3) E.nil)) (E.cst (.int 1))) (E.bin modF (E.callN _law_pickF (E.cons (E.var 1) (E.cons (E.cst (.int 2)) E.nil))) (E.callB lenF (E.cons (E.var 3) E.nil))) ρ s = .ok (nI (ss.length - 1 - r % ss.length), .cl, s1) := by
    rw [ev_bin, hsub, ev_rok]
    dsimp only
    rw [hmod, ev_rok]
    show Res.ok (PV.int (((ss.length : Int) - 1) - ((r : Int).fmod (ss.length : Int))), Tag.cl, s1) = _
    rw [sum_one _ _ h0]
    rfl
  have hs1 : E.bin subF (E.callB lenF (E.cons (E.var 3) E.nil)) (E.cst (.int 1)) ρ s = .ok (nI (ss.length - 1), .cl, s) := by
    rw [hsub]
    show Res.ok (PV.int _, Tag.cl, s) = Res.ok (PV.int _, Tag.cl, s)
    rw [show ((ss.length : Int) - 1) = ((ss.length - 1 : Nat) : Int) by omega]
  have s3 : (3 : Nat) ≤ sizeLine := small_le (by omega)
  refine ⟨ss.length - 1, ss.length - 1 - r % ss.length, s1, ?_, by omega, by omega⟩
  unfold joinE
  rw [ev_tup, ev_cons, ev_cst, ev_rok, ev_cons, hs1, ev_rok]
  dsimp only
  rw [one_arg hs2, ev_rok, ev_rok]
  show (if 3 ≤ sizeLine then Res.ok _ else .err) = _
  rw [if_pos s3]
  rfl
end K32
set_option Elab.async false
set_option linter.all false
set_option maxRecDepth 100000
namespace K32
open PySem L2 EV

abbrev condB2 : EE := E.or (E.bin (eqF true) (E.bin (eqF false) (E.callN _law_triedF (E.cons (E.var 6) E.nil)) (E.tup (E.cons (E.cst (.str "too many")) E.nil))) (E.bin gtF (E.var 8) (E.cst (.int 200)))) (E.and (E.bin ltF (E.var 8) (E.cst (.int 201))) (E.bin (eqF true) (E.callN row_ofF (E.cons (E.var 6) E.nil)) (E.callN _law_told_rowF (E.cons (E.var 6) E.nil))))
abbrev condB3 : EE := E.bin (eqF true) (E.callN _law_triedF (E.cons (E.bin addF (E.var 6) (E.tup (E.cons (E.cst (.str "b")) (E.cons (E.tup (E.cons (E.cst (.str "left")) (E.cons (E.callB lenF (E.cons (E.var 6) E.nil)) E.nil))) E.nil)))) E.nil)) (E.tup (E.cons (E.cst (.str "left")) (E.cons (E.cst (.str "b")) E.nil)))
abbrev lawB2 : ES := (Y.seq (Y.append 3 joinE)
    (Y.seq (Y.asg 6 (E.callB tupleF (E.cons (E.var 3) E.nil)))
    (Y.seq (Y.asg 8 (E.callN _law_sizeF (E.cons (E.var 6) E.nil)))
    (Y.seq (Y.ite condB2
    (Y.ret (E.cst (.bl false)))
    Y.nop)
    (Y.ite condB3
    (Y.ret (E.cst (.bl false)))
    Y.nop)))))
theorem eqF_bl (a b n : Bool) (t u : Tag) : eqF n (.bl a) t (.bl b) u = some (.bl (n != (a == b)), .cl) := by
  cases a <;> cases b <;> cases n <;> rfl
theorem cond2 {ss : List Stp} (o : OkS ss) (hs : shP (dueP ss) = true) {ρ : EnvP} {s : Src} (h : E.var 6 ρ s = .ok (encs ss, .cl, s)) (h8 : E.var 8 ρ s = .ok (nI (lastZ ss), .cl, s)) : condB2 ρ s = .ok (.bl false, .cl, s) := by
  have a1 : E.bin (eqF false) (E.callN _law_triedF (E.cons (E.var 6) E.nil)) (E.tup (E.cons (E.cst (.str "too many")) E.nil)) ρ s = .ok (.bl (decide (¬ lastZ ss ≤ 200)), .cl, s) := ev_ne (call_tried o h) too_ev (by rw [eqF_too o hs]; simp)
  have a2 : E.bin gtF (E.var 8) (E.cst (.int 200)) ρ s = .ok (.bl (decide (¬ lastZ ss ≤ 200)), .cl, s) := by
    rw [ev_bin, h8, ev_rok, ev_cst, ev_rok]
    dsimp only
    rw [gt_nI]
    dsimp only
    rw [show decide ((200 : Int) < (lastZ ss : Int)) = decide (¬ lastZ ss ≤ 200) from decide_eq_decide.mpr (by omega)]
  have a3 : E.bin ltF (E.var 8) (E.cst (.int 201)) ρ s = .ok (.bl (decide (lastZ ss ≤ 200)), .cl, s) := by
    rw [ev_bin, h8, ev_rok, ev_cst, ev_rok]
    dsimp only
    rw [lt_nI]
    dsimp only
    rw [show decide ((lastZ ss : Int) < 201) = decide (lastZ ss ≤ 200) from decide_eq_decide.mpr (by omega)]
  unfold condB2
  refine ev_orF (ev_ne a1 a2 (b := false) (by rw [eqF_bl]; simp)) ?_
  by_cases hz : lastZ ss ≤ 200
  · rw [decide_eq_true hz] at a3
    have hd : dueP ss = lastR ss := by unfold dueP; rw [if_pos hz]
    rw [hd] at hs
    exact ev_andT a3 (ev_ne (call_row o hz h) (call_told o h) (eqF_same hs))
  · rw [decide_eq_false hz] at a3
    exact ev_andF a3
theorem ok_b : PyData.strOk ("b" : Str) = true := by decide +kernel
theorem ok_a : PyData.strOk ("a" : Str) = true := by decide +kernel
theorem app_get {ss : List Stp} {st : Stp} {ts : List Stp} : (ss ++ st :: ts)[ss.length]? = some st := by
  rw [List.getElem?_append_right (Nat.le_refl _), Nat.sub_self]; rfl
/-- 'b' behind, then ('left', that) -/
theorem tail_left {ss : List Stp} (g : Good ss) : Good (ss ++ [.lt "b", .lf ss.length]) := by
  have g1 := g.snoc (st := .lt "b") (fun n hn => by simp [nums] at hn) (by simp [nums]) ok_b
  have g2 := g1.snoc (st := .lf ss.length) (fun n hn => by
    simp [nums] at hn
    rw [hn, List.length_append, List.length_singleton]
    omega) (by simp [nums]) trivial
  rw [List.append_assoc] at g2
  exact g2
theorem tail_b {ss : List Stp} (g : Good ss) : Good (ss ++ [.lt "b"]) := g.snoc (fun n hn => by simp [nums] at hn) (by simp [nums]) ok_b
theorem last_left {ss : List Stp} (g : Good ss) : lastR (ss ++ [.lt "b", .lf ss.length]) = .tup [.str "left", .str "b"] ∧ lastZ (ss ++ [.lt "b", .lf ss.length]) = 2 := by
  have w := (tail_left g).wf
  have hl : (ss ++ [Stp.lt "b", .lf ss.length]).length - 1 = ss.length + 1 := by simp
  have h1 : (ss ++ [Stp.lt "b", .lf ss.length])[ss.length + 1]? = some (.lf ss.length) := by
    rw [List.getElem?_append_right (by omega)]
    simp
  have h0 : (ss ++ [Stp.lt "b", .lf ss.length])[ss.length]? = some (.lt "b") := app_get
  have r0 := rw_eq w h0
  have z0 := sz_eq w h0
  refine ⟨?_, ?_⟩
  · unfold lastR
    rw [hl, rw_eq w h1]
    show PV.tup [.str "left", (rows _).getD ss.length .non] = _
    unfold rw_ at r0
    rw [r0]
    rfl
  · unfold lastZ
    rw [hl, sz_eq w h1]
    show 1 + (sz_ _ ss.length + 0) = 2
    rw [z0]
    rfl
theorem last_b {ss : List Stp} (g : Good ss) : lastR (ss ++ [.lt "b"]) = .str "b" ∧ lastZ (ss ++ [.lt "b"]) = 1 := by
  have w := (tail_b g).wf
  have hl : (ss ++ [Stp.lt "b"]).length - 1 = ss.length := by simp
  have h0 : (ss ++ [Stp.lt "b"])[ss.length]? = some (.lt "b") := app_get
  refine ⟨?_, ?_⟩
  · unfold lastR
    rw [hl, rw_eq w h0]
    rfl
  · unfold lastZ
    rw [hl, sz_eq w h0]
    rfl
theorem add_encs {ss ts : List Stp} (h : ss.length + ts.length ≤ 1000) : addF (encs ss) .cl (.tup (ts.map enc)) .cl = some (encs (ss ++ ts), .cl) := by
  show (if (ss.map enc).length + (ts.map enc).length ≤ sizeLine then some (PV.tup (ss.map enc ++ ts.map enc), Tag.cl) else none) = _
  rw [List.length_map, List.length_map, if_pos (small_le (by omega)), ← List.map_append]
  rfl
theorem sh_lb : shP (.tup [.str "left", .str "b"]) = true := by decide +kernel
theorem len_encs {ss : List Stp} {f : EE} {ρ : EnvP} {s : Src} (h : f ρ s = .ok (encs ss, .cl, s)) : E.callB lenF (E.cons f E.nil) ρ s = .ok (nI ss.length, .cl, s) := by
  rw [ev_callB, one_arg h]
  show Res.ok (PV.int ((ss.map enc).length : Int), Tag.cl, s) = _
  rw [List.length_map]
  rfl
theorem two_tup {f e : EE} {ρ : EnvP} {s s1 s2 : Src} {x y : PV} (hx : f ρ s = .ok (x, .cl, s1)) (hy : e ρ s1 = .ok (y, .cl, s2)) : E.tup (E.cons f (E.cons e E.nil)) ρ s = .ok (.tup [x, y], .cl, s2) := by
  have h2 : (2 : Nat) ≤ sizeLine := small_le (by omega)
  rw [ev_tup, ev_cons, hx, ev_rok]
  dsimp only
  rw [one_arg hy, ev_rok]
  show (if 2 ≤ sizeLine then Res.ok _ else .err) = _
  rw [if_pos h2]
  rfl
theorem one_tup {f : EE} {ρ : EnvP} {s s1 : Src} {x : PV} (hx : f ρ s = .ok (x, .cl, s1)) : E.tup (E.cons f E.nil) ρ s = .ok (.tup [x], .cl, s1) := by
  have h2 : (1 : Nat) ≤ sizeLine := small_le (by omega)
  rw [ev_tup, one_arg hx]
  show (if 1 ≤ sizeLine then Res.ok _ else .err) = _
  rw [if_pos h2]
  rfl
theorem add_ev {f e : EE} {ρ : EnvP} {s : Src} {ss ts : List Stp} (hl : ss.length + ts.length ≤ 1000) (hx : f ρ s = .ok (encs ss, .cl, s)) (hy : e ρ s = .ok (.tup (ts.map enc), .cl, s)) : E.bin addF f e ρ s = .ok (encs (ss ++ ts), .cl, s) := by
  rw [ev_bin, hx, ev_rok]
  dsimp only
  rw [hy, ev_rok]
  dsimp only
  rw [add_encs hl]
theorem cond3 {ss : List Stp} (g : Good ss) (hl : ss.length ≤ 900) {ρ : EnvP} {s : Src} (h : E.var 6 ρ s = .ok (encs ss, .cl, s)) : condB3 ρ s = .ok (.bl false, .cl, s) := by
  have g2 := tail_left g
  have o2 := g2.ok (by simp) (by simp; omega)
  obtain ⟨hr, hz⟩ := last_left g
  have hd : dueP (ss ++ [.lt "b", .lf ss.length]) = .tup [.str "left", .str "b"] := by
    unfold dueP
    rw [hz, if_pos (by omega), hr]
  have e1 : E.bin addF (E.var 6) (E.tup (E.cons (E.cst (.str "b")) (E.cons (E.tup (E.cons (E.cst (.str "left")) (E.cons (E.callB lenF (E.cons (E.var 6) E.nil)) E.nil))) E.nil))) ρ s = .ok (encs (ss ++ [.lt "b", .lf ss.length]), .cl, s) :=
    add_ev (ts := [.lt "b", .lf ss.length]) (by simp; omega) h (two_tup (ev_cst _ _ _) (two_tup (ev_cst _ _ _) (len_encs h)))
  unfold condB3
  refine ev_ne (call_tried o2 e1) (two_tup (ev_cst _ _ _) (ev_cst _ _ _)) ?_
  rw [hd]
  exact eqF_same sh_lb
theorem body2 {ss : List Stp} (g : Good ss) (h0 : 0 < ss.length) (hl : ss.length < 30) (x2 x6 x7 x8 : Slot) (s : Src) : ∃ (ss' : List Stp) (y6 y8 : Slot) (s' : Src), lawB2 [none, some (.src, false), x2, some (.lst (ss.map enc), true), none, none, x6, x7, x8, none] s = .ok (.nx, [none, some (.src, false), x2, some (.lst (ss'.map enc), true), none, none, y6, x7, y8, none], s') ∧ Good ss' ∧ ss'.length = ss.length + 1 := by
  obtain ⟨i, j, s1, ej, hi, hj⟩ := join_ev (ss := ss) (ρ := [none, some (.src, false), x2, some (.lst (ss.map enc), true), none, none, x6, x7, x8, none]) rfl (fun _ => rfl) h0 s
  have hz : (ss.map enc).length < sizeLine := by rw [List.length_map]; exact small_lt (by omega)
  have g1 : Good (ss ++ [.jn i j]) := g.snoc (fun n hn => by
    simp [nums] at hn
    rcases hn with rfl | rfl
    · exact hi
    · exact hj) (by simp [nums]) trivial
  have hlen : (ss ++ [Stp.jn i j]).length = ss.length + 1 := by simp
  have e1 : Y.append 3 joinE [none, some (.src, false), x2, some (.lst (ss.map enc), true), none, none, x6, x7, x8, none] s = .ok (.nx, [none, some (.src, false), x2, some (.lst ((ss ++ [Stp.jn i j]).map enc), true), none, none, x6, x7, x8, none], s1) := by
    rw [ev_append]
    have l3 : lstAt [none, some (.src, false), x2, some (.lst (ss.map enc), true), none, none, x6, x7, x8, none] 3 = some (ss.map enc) := rfl
    rw [l3]
    dsimp only
    rw [ej, ev_bok, if_pos ⟨rfl, hz⟩, List.map_append]
    rfl
  generalize ss ++ [Stp.jn i j] = ts at g1 hlen e1
  have o := g1.ok (by omega) (by omega)
  have hs := sh_due g1.lt (by omega : ts.length ≤ 32)
  have e2 : Y.asg 6 (E.callB tupleF (E.cons (E.var 3) E.nil)) [none, some (.src, false), x2, some (.lst (ts.map enc), true), none, none, x6, x7, x8, none] s1 = .ok (.nx, [none, some (.src, false), x2, some (.lst (ts.map enc), true), none, none, some (encs ts, false), x7, x8, none], s1) := rfl
  have e3 : Y.asg 8 (E.callN _law_sizeF (E.cons (E.var 6) E.nil)) [none, some (.src, false), x2, some (.lst (ts.map enc), true), none, none, some (encs ts, false), x7, x8, none] s1 = .ok (.nx, [none, some (.src, false), x2, some (.lst (ts.map enc), true), none, none, some (encs ts, false), x7, some (nI (lastZ ts), false), none], s1) := by
    rw [ev_asg, call_size o rfl, ev_bok]
    rfl
  refine ⟨ts, some (encs ts, false), some (nI (lastZ ts), false), s1, ?_, g1, hlen⟩
  unfold lawB2
  rw [seq_nx e1, seq_nx e2, seq_nx e3, seq_nx (if_no (cond2 o hs rfl rfl) (ev_nop _ _))]
  exact if_no (cond3 g1 (by omega) rfl) (ev_nop _ _)
end K32
set_option Elab.async false
set_option linter.all false
set_option maxRecDepth 100000
namespace K32
open PySem L2 EV

/-! ### 'a', then one entry for each number -/
def mk (F : Nat → Stp) (n : Nat) : List Stp := .lt "a" :: (List.range n).map F
theorem mk_len (F : Nat → Stp) (n : Nat) : (mk F n).length = n + 1 := by simp [mk]
theorem mk_succ (F : Nat → Stp) (n : Nat) : mk F (n + 1) = mk F n ++ [F n] := by
  unfold mk
  rw [List.range_succ, List.map_append]
  rfl
theorem good_mk {F : Nat → Stp} (h1 : ∀ k, ∀ j ∈ nums (F k), j = k) (h2 : ∀ k, (nums (F k)).length ≤ 1000) (h3 : ∀ k, okLt (F k)) : ∀ n, Good (mk F n)
  | 0 => ⟨⟨fun n hn => (by simp [nums] at hn), trivial⟩, fun st h => by
    rw [List.mem_singleton.mp h]; simp [nums], fun st h => by
    rw [List.mem_singleton.mp h]; exact ok_a⟩
  | n + 1 => by
    rw [mk_succ]
    exact (good_mk h1 h2 h3 n).snoc (fun j hj => by rw [h1 n j hj, mk_len]; omega) (h2 n) (h3 n)
theorem mk_get {F : Nat → Stp} {n k : Nat} (h : k < n) : (mk F n)[k + 1]? = some (F k) := by
  unfold mk
  rw [List.getElem?_cons_succ, List.getElem?_map, List.getElem?_range h]
  rfl
theorem mk_zero {F : Nat → Stp} {n : Nat} : (mk F n)[0]? = some (.lt "a") := rfl
theorem mk_last (F : Nat → Stp) (n : Nat) : lastZ (mk F n) = sz_ (mk F n) n := by
  unfold lastZ
  rw [mk_len]
  rfl
abbrev fD (k : Nat) : Stp := .jn k k
abbrev fL (k : Nat) : Stp := .lf k
abbrev fR (k : Nat) : Stp := .rt k
theorem gD (n : Nat) : Good (mk fD n) := good_mk (F := fD) (fun k j hj => by simp [nums] at hj; exact hj) (fun k => by simp [nums]) (fun _ => trivial) n
theorem gL (n : Nat) : Good (mk fL n) := good_mk (F := fL) (fun k j hj => by simp [nums] at hj; exact hj) (fun k => by simp [nums]) (fun _ => trivial) n
theorem gR (n : Nat) : Good (mk fR n) := good_mk (F := fR) (fun k j hj => by simp [nums] at hj; exact hj) (fun k => by simp [nums]) (fun _ => trivial) n
theorem szD {n : Nat} : ∀ k, k ≤ n → 2 ^ k ≤ sz_ (mk fD n) k
  | 0, _ => by
    rw [sz_eq (gD n).wf mk_zero]
    show 1 ≤ 1 + 0
    omega
  | k + 1, h => by
    have ih := szD (n := n) k (by omega)
    rw [sz_eq (gD n).wf (mk_get (by omega : k < n))]
    show 2 ^ (k + 1) ≤ 1 + (sz_ (mk fD n) k + (sz_ (mk fD n) k + 0))
    rw [Nat.pow_succ]
    omega
theorem szL {n : Nat} : ∀ k, k ≤ n → sz_ (mk fL n) k = k + 1
  | 0, _ => by
    rw [sz_eq (gL n).wf mk_zero]
    rfl
  | k + 1, h => by
    have ih := szL (n := n) k (by omega)
    rw [sz_eq (gL n).wf (mk_get (by omega : k < n))]
    show 1 + (sz_ (mk fL n) k + 0) = _
    rw [ih]
    omega
theorem bigD {n : Nat} (h : 40 ≤ n) : ¬ lastZ (mk fD n) ≤ 200 := by
  rw [mk_last]
  have h1 := szD (n := n) n (Nat.le_refl _)
  have h2 : 2 ^ 8 ≤ 2 ^ n := Nat.pow_le_pow_right (by omega) (by omega)
  have h3 : (2 : Nat) ^ 8 = 256 := rfl
  omega
theorem grow_ev {n : Nat} {fs : EEs} {fe : EE} {G : PV → PV} {F : Nat → Stp} {ρ : EnvP} {s s1 : Src} (hG : ∀ k, G (nI k) = enc (F k)) (ha : fs ρ s = .ok ([(nI n, .cl)], s1)) (h9 : ρ[9]? = some none) (he : ∀ z, fe ((wipeP ρ [9]).set 9 (some (z, false))) s1 = .ok (G z, .cl, s1)) (hn : n ≤ 1000) :
    E.bin addF (E.lst (E.cons (E.cst (.str "a")) E.nil)) (E.comp (I.args rng1F fs) (.nm 9) none fe [9]) ρ s = .ok (.lst ((mk F n).map enc), .fr, s1) := by
  have h1 : (1 : Nat) ≤ sizeLine := small_le (by omega)
  have hl : E.lst (E.cons (E.cst (.str "a")) E.nil) ρ s = .ok (.lst [.str "a"], .fr, s) := by
    rw [ev_lst, one_arg (ev_cst _ _ _)]
    dsimp only
    rw [if_pos ⟨h1, rfl⟩]
    rfl
  have hc := comp_args (f := fe) (g := G) ha (rng1_nat (n := n) (by omega) .cl) h9 pl_none fun z hz => ⟨.cl, he z, rfl⟩
  have hm : ((List.range n).map nI).map G = ((List.range n).map F).map enc := by
    rw [List.map_map, List.map_map]
    exact List.map_congr_left fun k _ => hG k
  rw [hm] at hc
  rw [ev_bin, hl, ev_rok]
  dsimp only
  rw [hc, ev_rok]
  show (match (if [PV.str "a"].length + (((List.range n).map F).map enc).length ≤ sizeLine then some (PV.lst ([PV.str "a"] ++ ((List.range n).map F).map enc), Tag.fr) else none) with
    | some z => Res.ok (z.1, z.2, s1)
    | none => .err) = _
  rw [if_pos (by
    rw [List.length_map, List.length_map, List.length_range, List.length_singleton]
    exact small_le (by omega))]
  rfl
theorem tup_of {f : EE} {ρ : EnvP} {s s1 : Src} {ss : List Stp} (h : f ρ s = .ok (.lst (ss.map enc), .fr, s1)) : E.callB tupleF (E.cons f E.nil) ρ s = .ok (encs ss, .cl, s1) := by
  rw [ev_callB, one_arg h]
  rfl
theorem three_tup {f e d : EE} {ρ : EnvP} {s : Src} {x y z : PV} (hx : f ρ s = .ok (x, .cl, s)) (hy : e ρ s = .ok (y, .cl, s)) (hz : d ρ s = .ok (z, .cl, s)) : E.tup (E.cons f (E.cons e (E.cons d E.nil))) ρ s = .ok (.tup [x, y, z], .cl, s) := by
  have h2 : (3 : Nat) ≤ sizeLine := small_le (by omega)
  rw [ev_tup, ev_cons, hx, ev_rok]
  dsimp only
  rw [ev_cons, hy, ev_rok]
  dsimp only
  rw [one_arg hz, ev_rok, ev_rok]
  show (if 3 ≤ sizeLine then Res.ok _ else .err) = _
  rw [if_pos h2]
  rfl
/-! ### the loops -/
theorem loop1 {b : ES} (hb : ∀ (x2 x6 x7 : Slot) (s : Src), ∃ (y6 y7 : Slot) (s' : Src), b [none, some (.src, false), x2, none, none, none, x6, x7, none, none] s = .ok (.nx, [none, some (.src, false), x2, none, none, none, y6, y7, none, none], s')) :
    ∀ (zs : List PV) (x2 x6 x7 : Slot) (s : Src), pl x2 → ∃ (y2 y6 y7 : Slot) (s' : Src), pl y2 ∧ forGo (.nm 2) b zs [none, some (.src, false), x2, none, none, none, x6, x7, none, none] s = .ok (.nx, [none, some (.src, false), y2, none, none, none, y6, y7, none, none], s')
  | [], x2, x6, x7, s, p => ⟨x2, x6, x7, s, p, rfl⟩
  | z :: zs, x2, x6, x7, s, p => by
    obtain ⟨y6, y7, s1, e1⟩ := hb (some (z, false)) x6 x7 s
    obtain ⟨y2, z6, z7, s2, p2, e2⟩ := loop1 hb zs (some (z, false)) y6 y7 s1 (pl_some _)
    refine ⟨y2, z6, z7, s2, p2, ?_⟩
    unfold forGo
    rw [set_nm z (sl := x2) rfl p]
    dsimp only [List.set]
    rw [e1]
    exact e2
theorem loop2 {b : ES} (hb : ∀ (ss : List Stp) (x2 x6 x7 x8 : Slot) (s : Src), Good ss → 0 < ss.length → ss.length < 30 → ∃ (ss' : List Stp) (y6 y8 : Slot) (s' : Src), b [none, some (.src, false), x2, some (.lst (ss.map enc), true), none, none, x6, x7, x8, none] s = .ok (.nx, [none, some (.src, false), x2, some (.lst (ss'.map enc), true), none, none, y6, x7, y8, none], s') ∧ Good ss' ∧ ss'.length = ss.length + 1) :
    ∀ (zs : List PV) (ss : List Stp) (x2 x6 x7 x8 : Slot) (s : Src), pl x2 → Good ss → 0 < ss.length → ss.length + zs.length < 30 → ∃ (ss' : List Stp) (y2 y6 y8 : Slot) (s' : Src), forGo (.nm 2) b zs [none, some (.src, false), x2, some (.lst (ss.map enc), true), none, none, x6, x7, x8, none] s = .ok (.nx, [none, some (.src, false), y2, some (.lst (ss'.map enc), true), none, none, y6, x7, y8, none], s')
  | [], ss, x2, x6, x7, x8, s, _, _, _, _ => ⟨ss, x2, x6, x8, s, rfl⟩
  | z :: zs, ss, x2, x6, x7, x8, s, p, g, h0, hl => by
    rw [List.length_cons] at hl
    obtain ⟨ts, y6, y8, s1, e1, g1, l1⟩ := hb ss (some (z, false)) x6 x7 x8 s g h0 (by omega)
    obtain ⟨us, y2, z6, z8, s2, e2⟩ := loop2 hb zs ts (some (z, false)) y6 x7 y8 s1 (pl_some _) g1 (by omega) (by omega)
    refine ⟨us, y2, z6, z8, s2, ?_⟩
    unfold forGo
    rw [set_nm z (sl := x2) rfl p]
    dsimp only [List.set]
    rw [e1]
    exact e2
theorem plus_pick {ρ : EnvP} {m a : Nat} (h1 : ρ[1]? = some (some (.src, false))) (hm : 0 < m) (h2 : m < 1000000) (s : Src) :
    ∃ r s', r < m ∧ E.bin addF (E.cst (.int (a : Int))) (E.callN _law_pickF (E.cons (E.var 1) (E.cons (E.cst (.int (m : Int))) E.nil))) ρ s = .ok (nI (a + r), .cl, s') := by
  obtain ⟨r, s1, hr, er⟩ := pick_ev1 (e := E.cst (.int (m : Int))) (m := m) (t := .cl) h1 (fun _ => rfl) rfl hm h2 s
  refine ⟨r, s1, hr, ?_⟩
  rw [ev_bin, ev_cst, ev_rok]
  dsimp only
  rw [er, ev_rok]
  show Res.ok (PV.int ((a : Int) + (r : Int)), Tag.cl, s1) = Res.ok (PV.int ((a + r : Nat) : Int), Tag.cl, s1)
  rw [show (a : Int) + (r : Int) = ((a + r : Nat) : Int) by omega]
theorem var9 {ρ : EnvP} {s : Src} {z : PV} (h : 9 < ρ.length) : E.var 9 ((wipeP ρ [9]).set 9 (some (z, false))) s = .ok (z, .cl, s) := by
  have hi : ((wipeP ρ [9]).set 9 (some (z, false)))[9]? = some (some (z, false)) := by
    rw [List.getElem?_set_self]
    rw [wipeP_length]
    exact h
  rw [ev_var, hi]
theorem last_r {n : Nat} : lastZ (mk fL n ++ [.rt n]) = n + 2 := by
  have g : Good (mk fL n ++ [.rt n]) := (gL n).snoc (fun j hj => by
    simp [nums] at hj
    rw [hj, mk_len]
    omega) (by simp [nums]) trivial
  have h0 : (mk fL n ++ [Stp.rt n])[(mk fL n).length]? = some (.rt n) := app_get
  have hn : (mk fL n ++ [Stp.rt n])[n]? = (mk fL n)[n]? := List.getElem?_append_left (by rw [mk_len]; omega)
  have hz : ∀ k, k ≤ n → sz_ (mk fL n ++ [.rt n]) k = sz_ (mk fL n) k := fun k hk => by
    obtain ⟨ys, e, _⟩ := acc_app (f := szOf) [Stp.rt n] (sizes (mk fL n))
    have e2 : sizes (mk fL n ++ [.rt n]) = sizes (mk fL n) ++ ys := by
      have := acc_snoc (f := szOf) (mk fL n) (.rt n) []
      unfold sizes
      rw [this]
      unfold sizes at e
      exact e
    unfold sz_
    rw [e2, List.getD_eq_getElem?_getD, List.getElem?_append_left, ← List.getD_eq_getElem?_getD]
    unfold sizes
    rw [acc_len, mk_len]
    simp
    omega
  unfold lastZ
  rw [show (mk fL n ++ [Stp.rt n]).length - 1 = (mk fL n).length by simp, sz_eq g.wf h0]
  show 1 + (sz_ _ n + 0) = n + 2
  rw [hz n (Nat.le_refl _), szL n (Nat.le_refl _)]
  omega
theorem law_true (ns : List Int) : ∃ ρ s, lawB (lawStart 10) (openP ns) = .ok (.ret (.bl true), ρ, s) := by
  -- the three draws
  obtain ⟨y2, y6, y7, s1, p2, e1⟩ := loop1 (b := lawB1) (fun x2 x6 x7 s => body1 x2 x6 x7 s) ((List.range 3).map nI) none none none (openP ns) pl_none
  have a1 := for_args (t := .nm 2) (b := lawB1) (one_arg (ev_cst [none, some (.src, false), none, none, none, none, none, none, none, none] (openP ns) (.int 3))) (rng1_nat (n := 3) (by omega) .cl)
  rw [e1] at a1
  -- the grown steps
  obtain ⟨r, s2, hr, er⟩ := pick_ev1 (ρ := [none, some (.src, false), y2, none, none, none, y6, y7, none, none]) (i := 1) (e := E.cst (.int 6)) (m := 6) (t := .cl) rfl (fun _ => rfl) rfl (by omega) (by omega) s1
  have g1 := grow_ev (ρ := [none, some (.src, false), y2, none, none, none, y6, y7, none, none]) (fe := E.tup (E.cons (E.cst (.str "right")) (E.cons (E.var 9) E.nil))) (G := fun z => .tup [.str "right", z]) (F := fR) (fun _ => rfl) (one_arg er) rfl (fun z => two_tup (ev_cst _ _ _) (var9 (by simp))) (by omega)
  have a2 : Y.asg 3 (E.bin addF (E.lst (E.cons (E.cst (.str "a")) E.nil)) (E.comp (I.args rng1F (E.cons (E.callN _law_pickF (E.cons (E.var 1) (E.cons (E.cst (.int 6)) E.nil))) E.nil)) (.nm 9) none (E.tup (E.cons (E.cst (.str "right")) (E.cons (E.var 9) E.nil))) [9])) [none, some (.src, false), y2, none, none, none, y6, y7, none, none] s1
      = .ok (.nx, [none, some (.src, false), y2, some (.lst ((mk fR r).map enc), true), none, none, y6, y7, none, none], s2) := by
    rw [ev_asg, g1, ev_bok]
    rfl
  obtain ⟨us, w2, w6, w8, s3, e3⟩ := loop2 (b := lawB2) (fun ss x2 x6 x7 x8 s g h0 hl => body2 g h0 hl x2 x6 x7 x8 s) ((List.range 9).map nI) (mk fR r) y2 y6 y7 none s2 p2 (gR r) (by rw [mk_len]; omega) (by rw [mk_len, List.length_map, List.length_range]; omega)
  have a3 := for_args (t := .nm 2) (b := lawB2) (one_arg (ev_cst [none, some (.src, false), y2, some (.lst ((mk fR r).map enc), true), none, none, y6, y7, none, none] s2 (.int 9))) (rng1_nat (n := 9) (by omega) .cl)
  rw [e3] at a3
  -- doubled
  obtain ⟨d, s4, hd, ed⟩ := plus_pick (ρ := [none, some (.src, false), w2, some (.lst (us.map enc), true), none, none, w6, y7, w8, none]) (m := 20) (a := 40) rfl (by omega) (by omega) s3
  have g4 := grow_ev (ρ := [none, some (.src, false), w2, some (.lst (us.map enc), true), none, none, w6, y7, w8, none]) (fe := E.tup (E.cons (E.cst (.str "join")) (E.cons (E.var 9) (E.cons (E.var 9) E.nil)))) (G := fun z => .tup [.str "join", z, z]) (F := fD) (fun _ => rfl) (one_arg ed) rfl (fun z => three_tup (ev_cst _ _ _) (var9 (by simp)) (var9 (by simp))) (by omega)
  have a4 : Y.asg 4 (E.callB tupleF (E.cons (E.bin addF (E.lst (E.cons (E.cst (.str "a")) E.nil)) (E.comp (I.args rng1F (E.cons (E.bin addF (E.cst (.int 40)) (E.callN _law_pickF (E.cons (E.var 1) (E.cons (E.cst (.int 20)) E.nil)))) E.nil)) (.nm 9) none (E.tup (E.cons (E.cst (.str "join")) (E.cons (E.var 9) (E.cons (E.var 9) E.nil)))) [9])) E.nil)) [none, some (.src, false), w2, some (.lst (us.map enc), true), none, none, w6, y7, w8, none] s3
      = .ok (.nx, [none, some (.src, false), w2, some (.lst (us.map enc), true), some (encs (mk fD (40 + d)), false), none, w6, y7, w8, none], s4) := by
    rw [ev_asg]
    have := tup_of g4
    exact congrArg (fun r => bindE r _) this
  have oD := (gD (40 + d)).ok (by rw [mk_len]; omega) (by rw [mk_len]; omega)
  have bD := bigD (n := 40 + d) (by omega)
  have dD : dueP (mk fD (40 + d)) = tooM := by unfold dueP; rw [if_neg bD]
  have gB := tail_b (gD (40 + d))
  have oB := gB.ok (by simp) (by rw [List.length_append, mk_len]; simp; omega)
  obtain ⟨rB, zB⟩ := last_b (gD (40 + d))
  have dB : dueP (mk fD (40 + d) ++ [.lt "b"]) = .str "b" := by
    unfold dueP
    rw [zB, if_pos (by omega), rB]
  have v4 : E.var 4 [none, some (.src, false), w2, some (.lst (us.map enc), true), some (encs (mk fD (40 + d)), false), none, w6, y7, w8, none] s4 = .ok (encs (mk fD (40 + d)), .cl, s4) := rfl
  have c4 : E.or (E.bin (eqF true) (E.callN _law_triedF (E.cons (E.var 4) E.nil)) (E.tup (E.cons (E.cst (.str "too many")) E.nil))) (E.bin (eqF true) (E.callN _law_triedF (E.cons (E.bin addF (E.var 4) (E.tup (E.cons (E.cst (.str "b")) E.nil))) E.nil)) (E.cst (.str "b"))) [none, some (.src, false), w2, some (.lst (us.map enc), true), some (encs (mk fD (40 + d)), false), none, w6, y7, w8, none] s4 = .ok (.bl false, .cl, s4) := by
    refine ev_orF (ev_ne (call_tried oD v4) too_ev (by rw [dD]; exact eqF_same sh_too)) ?_
    refine ev_ne (call_tried oB (add_ev (ts := [.lt "b"]) (by rw [mk_len]; simp; omega) v4 (one_tup (ev_cst _ _ _)))) (ev_cst _ _ _) ?_
    rw [dB]
    exact eqF_same (shP_str ok_b)
  -- the chain
  have g5 := grow_ev (n := 199) (s1 := s4) (s := s4) (ρ := [none, some (.src, false), w2, some (.lst (us.map enc), true), some (encs (mk fD (40 + d)), false), none, w6, y7, w8, none]) (fe := E.tup (E.cons (E.cst (.str "left")) (E.cons (E.var 9) E.nil))) (G := fun z => .tup [.str "left", z]) (F := fL) (fun _ => rfl) (one_arg (ev_cst _ _ (.int 199))) rfl (fun z => two_tup (ev_cst _ _ _) (var9 (by simp))) (by omega)
  have a5 : Y.asg 5 (E.callB tupleF (E.cons (E.bin addF (E.lst (E.cons (E.cst (.str "a")) E.nil)) (E.comp (I.args rng1F (E.cons (E.cst (.int 199)) E.nil)) (.nm 9) none (E.tup (E.cons (E.cst (.str "left")) (E.cons (E.var 9) E.nil))) [9])) E.nil)) [none, some (.src, false), w2, some (.lst (us.map enc), true), some (encs (mk fD (40 + d)), false), none, w6, y7, w8, none] s4
      = .ok (.nx, [none, some (.src, false), w2, some (.lst (us.map enc), true), some (encs (mk fD (40 + d)), false), some (encs (mk fL 199), false), w6, y7, w8, none], s4) := by
    rw [ev_asg, tup_of g5, ev_bok]
    rfl
  have oL := (gL 199).ok (by rw [mk_len]; omega) (by rw [mk_len]; omega)
  have zL : lastZ (mk fL 199) = 200 := by rw [mk_last, szL 199 (Nat.le_refl _)]
  have gC : Good (mk fL 199 ++ [.rt 199]) := (gL 199).snoc (fun j hj => by
    simp [nums] at hj
    rw [hj, mk_len]
    omega) (by simp [nums]) trivial
  have oC := gC.ok (by simp) (by rw [List.length_append, mk_len]; simp)
  have zC : lastZ (mk fL 199 ++ [.rt 199]) = 201 := last_r
  have dC : dueP (mk fL 199 ++ [.rt 199]) = tooM := by unfold dueP; rw [zC, if_neg (by omega)]
  have v5 : E.var 5 [none, some (.src, false), w2, some (.lst (us.map enc), true), some (encs (mk fD (40 + d)), false), some (encs (mk fL 199), false), w6, y7, w8, none] s4 = .ok (encs (mk fL 199), .cl, s4) := rfl
  have q200 : ∀ t u : Tag, eqF false (nI (lastZ (mk fL 199))) t (.int 200) u = some (.bl true, .cl) := fun t u => by
    rw [zL]
    rfl
  have c5 : E.and (E.bin (eqF false) (E.callN size_ofF (E.cons (E.callN row_ofF (E.cons (E.var 5) E.nil)) E.nil)) (E.cst (.int 200))) (E.bin (eqF false) (E.callN _law_triedF (E.cons (E.bin addF (E.var 5) (E.tup (E.cons (E.tup (E.cons (E.cst (.str "right")) (E.cons (E.cst (.int 199)) E.nil))) E.nil))) E.nil)) (E.tup (E.cons (E.cst (.str "too many")) E.nil))) [none, some (.src, false), w2, some (.lst (us.map enc), true), some (encs (mk fD (40 + d)), false), some (encs (mk fL 199), false), w6, y7, w8, none] s4 = .ok (.bl true, .cl, s4) := by
    refine ev_andT (ev_ne (call_size_of oL (by omega) v5) (ev_cst _ _ _) (q200 _ _)) ?_
    refine ev_ne (call_tried oC (add_ev (ts := [.rt 199]) (by rw [mk_len]; simp) v5 (one_tup (two_tup (ev_cst _ _ _) (ev_cst _ _ _))))) too_ev ?_
    rw [dC]
    exact eqF_same sh_too
  have e0 : lawStart 10 = [none, some (.src, false), none, none, none, none, none, none, none, none] := rfl
  refine ⟨[none, some (.src, false), w2, some (.lst (us.map enc), true), some (encs (mk fD (40 + d)), false), some (encs (mk fL 199), false), w6, y7, w8, none], s4, ?_⟩
  unfold lawB
  rw [e0, seq_nx a1, seq_nx a2, seq_nx a3, seq_nx a4, seq_nx (if_no c4 (ev_nop _ _)), seq_nx a5, ev_ret, c5, ev_bok]
end K32
set_option Elab.async false
set_option linter.all false
set_option maxRecDepth 100000
namespace K32
open PySem PySem.Spec PyProof.Rows L2 EV
theorem all_mk {l : PySem.W.OpenLaw} {w : World} {K : PySem.W.Frag} {h : Heap} {mg : Str → Option Value} {fa : Addr} (X : K.In h) (G : h.Ns mainGlobals mg) (hfa : mg "law" = some (.ref fa))
    {tc0 : Tok}
    {tc1 : Tok}
    {tc2 : Tok}
    {nm0 q0 : Str} {C0 N0 fI0 cc0 cda0 : Addr} {bs0 bm0 sub0 : List Value} {sn0 : List Str} {ab0 : Bool} {col0 : Option Bool} {dd0 iod0 ian0 cdd0 cld0 : Option Addr} {k00 k10 k20 k30 k50 : Option Value} {ioc0 ikV0 idoc0 ipm0 ict0 ccl0 cl0 : Value} {iosl0 ccs0 csl0 : Array (Option Value)} {vs0 : Array Value} {file0 : Str} {tf0 : Tok}
    {f0 : Addr} {od0 an0 : Option Addr} {sl0 : Array (Option Value)} {oc0 kV0 dc0 pm0 cd0 ct0 : Value}
    {f1 : Addr} {od1 an1 : Option Addr} {sl1 : Array (Option Value)} {oc1 kV1 dc1 pm1 cd1 ct1 : Value}
    {f2 : Addr} {od2 an2 : Option Addr} {sl2 : Array (Option Value)} {oc2 kV2 dc2 pm2 cd2 ct2 : Value}
    {f3 : Addr} {od3 an3 : Option Addr} {sl3 : Array (Option Value)} {oc3 kV3 dc3 pm3 cd3 ct3 : Value}
    {f4 : Addr} {od4 an4 : Option Addr} {sl4 : Array (Option Value)} {oc4 kV4 dc4 pm4 cd4 ct4 : Value}
    {f5 : Addr} {od5 an5 : Option Addr} {sl5 : Array (Option Value)} {oc5 kV5 dc5 pm5 cd5 ct5 : Value}
    {f6 : Addr} {od6 an6 : Option Addr} {sl6 : Array (Option Value)} {oc6 kV6 dc6 pm6 cd6 ct6 : Value}
    {f7 : Addr} {od7 an7 : Option Addr} {sl7 : Array (Option Value)} {oc7 kV7 dc7 pm7 cd7 ct7 : Value}
    {f8 : Addr} {od8 an8 : Option Addr} {sl8 : Array (Option Value)} {oc8 kV8 dc8 pm8 cd8 ct8 : Value}
    {f9 : Addr} {od9 an9 : Option Addr} {sl9 : Array (Option Value)} {oc9 kV9 dc9 pm9 cd9 ct9 : Value}
    {f10 : Addr} {od10 an10 : Option Addr} {sl10 : Array (Option Value)} {oc10 kV10 dc10 pm10 cd10 ct10 : Value}
    {f11 : Addr} {od11 an11 : Option Addr} {sl11 : Array (Option Value)} {oc11 kV11 dc11 pm11 cd11 ct11 : Value}
    {f12 : Addr} {od12 an12 : Option Addr} {sl12 : Array (Option Value)} {oc12 kV12 dc12 pm12 cd12 ct12 : Value}
    {f13 : Addr} {od13 an13 : Option Addr} {sl13 : Array (Option Value)} {oc13 kV13 dc13 pm13 cd13 ct13 : Value}
    (z0 : PySem.W.nsIn K mainGlobals "abs" = some none)
    (z1 : PySem.W.nsIn K mainGlobals "int" = some none)
    (z2 : PySem.W.nsIn K mainGlobals "isinstance" = some none)
    (z3 : PySem.W.nsIn K mainGlobals "len" = some none)
    (z4 : PySem.W.nsIn K mainGlobals "list" = some none)
    (z5 : PySem.W.nsIn K mainGlobals "range" = some none)
    (z6 : PySem.W.nsIn K mainGlobals "sorted" = some none)
    (z7 : PySem.W.nsIn K mainGlobals "str" = some none)
    (z8 : PySem.W.nsIn K mainGlobals "sum" = some none)
    (z9 : PySem.W.nsIn K mainGlobals "super" = some none)
    (z10 : PySem.W.nsIn K mainGlobals "tuple" = some none)
    (gc0 : PySem.W.nsIn K mainGlobals "JOIN" = some (some (.str "join" tc0)))
    (gc1 : PySem.W.nsIn K mainGlobals "MIX" = some (some (.str "mix" tc1)))
    (gc2 : PySem.W.nsIn K mainGlobals "MOST_SIZE" = some (some (.int 200 tc2)))
    (xa0 : PySem.W.nsIn K mainGlobals "TooMany" = some (some (.ref C0)))
    (xl0 : K.lookup C0 = some (excClassObj nm0 q0 C0 N0 bs0 bm0 true sn0 sub0 ab0 col0 dd0 k00 k10 k20 k30 k50 "ValueError.__new__"))
    (xb0 : PySem.HandSPX.refsVE bm0 = true)
    (xs0 : PySem.W.findIn K (.ref C0) "__setattr__" = some (some (.builtin "object.__setattr__")))
    (xe0 : PySem.W.subIn K (.ref C0) (.type "BaseException") = some true)
    (xt0 : PySem.W.typeIn K (.ref C0) = some (.type "type"))
    (xk0 : PySem.W.keepIn K (.ref C0) = true)
    (xi0 : PySem.W.findIn K (.ref C0) "__init__" = some (some (.ref fI0)))
    (xf0 : PySem.W.typeIn K (.ref fI0) = some (.type "function"))
    (xg0 : K.lookup fI0 = some ⟨ioc0, iod0, .func (PySem.W.ksFn "__init__" "TooMany.__init__" (defArgs (inClass (topS 2) 0)) (defBody (inClass (topS 2) 0)) (defScope (inClass (topS 2) 0)) .none ikV0 idoc0 ipm0 ian0 (.ref cda0) ict0 cc0), iosl0⟩)
    (xh0 : PySem.W.codeIn K (.ref cda0) "TooMany.__init__" = true)
    (xc0 : K.lookup cda0 = some ⟨ccl0, cdd0, .fields vs0, ccs0⟩)
    (xv0 : vs0[2]? = some (.str file0 tf0))
    (xw0 : ((l.prog.main.file : Str) == file0) = true)
    (xd0 : K.lookup cc0 = some ⟨cl0, cld0, .cell (some (.ref C0)), csl0⟩)
    (xm0 : PySem.W.ks_superIn K C0 C0 "__init__" = some (some (.builtin "ValueError.__init__")))
    (xn0 : PySem.W.subIn K (.ref C0) (.type "ValueError") = some true)
    (xo0 : PySem.W.nsIn K cStatics "thirdparty.any" = some none)
    (xp0 : (l.prog.main.scope.names.lookup ("super" : Str)).isSome = false)
    (xq0 : PySem.W.exmOne K (.ref C0) (.ref C0) = some true)
    (a0 : PySem.W.nsIn K mainGlobals "parts_of" = some (some (.ref f0)))
    (l0 : K.lookup f0 = some ⟨oc0, od0, .func (PySem.W.fnOf "parts_of" "parts_of" (defArgs (topS 6)) (defBody (topS 6)) (defScope (topS 6)) .none kV0 dc0 pm0 an0 cd0 ct0), sl0⟩)
    (c0 : PySem.W.codeIn K cd0 "parts_of" = true)
    (k0 : PySem.W.keepIn K (.ref f0) = true)
    (a1 : PySem.W.nsIn K mainGlobals "size_of" = some (some (.ref f1)))
    (l1 : K.lookup f1 = some ⟨oc1, od1, .func (PySem.W.fnOf "size_of" "size_of" (defArgs (topS 7)) (defBody (topS 7)) (defScope (topS 7)) .none kV1 dc1 pm1 an1 cd1 ct1), sl1⟩)
    (c1 : PySem.W.codeIn K cd1 "size_of" = true)
    (k1 : PySem.W.keepIn K (.ref f1) = true)
    (a2 : PySem.W.nsIn K mainGlobals "numbers_in" = some (some (.ref f2)))
    (l2 : K.lookup f2 = some ⟨oc2, od2, .func (PySem.W.fnOf "numbers_in" "numbers_in" (defArgs (topS 10)) (defBody (topS 10)) (defScope (topS 10)) .none kV2 dc2 pm2 an2 cd2 ct2), sl2⟩)
    (c2 : PySem.W.codeIn K cd2 "numbers_in" = true)
    (k2 : PySem.W.keepIn K (.ref f2) = true)
    (a3 : PySem.W.nsIn K mainGlobals "sizes" = some (some (.ref f3)))
    (l3 : K.lookup f3 = some ⟨oc3, od3, .func (PySem.W.fnOf "sizes" "sizes" (defArgs (topS 11)) (defBody (topS 11)) (defScope (topS 11)) .none kV3 dc3 pm3 an3 cd3 ct3), sl3⟩)
    (c3 : PySem.W.codeIn K cd3 "sizes" = true)
    (k3 : PySem.W.keepIn K (.ref f3) = true)
    (a4 : PySem.W.nsIn K mainGlobals "needed" = some (some (.ref f4)))
    (l4 : K.lookup f4 = some ⟨oc4, od4, .func (PySem.W.fnOf "needed" "needed" (defArgs (topS 13)) (defBody (topS 13)) (defScope (topS 13)) .none kV4 dc4 pm4 an4 cd4 ct4), sl4⟩)
    (c4 : PySem.W.codeIn K cd4 "needed" = true)
    (k4 : PySem.W.keepIn K (.ref f4) = true)
    (a5 : PySem.W.nsIn K mainGlobals "row_of" = some (some (.ref f5)))
    (l5 : K.lookup f5 = some ⟨oc5, od5, .func (PySem.W.fnOf "row_of" "row_of" (defArgs (topS 12)) (defBody (topS 12)) (defScope (topS 12)) .none kV5 dc5 pm5 an5 cd5 ct5), sl5⟩)
    (c5 : PySem.W.codeIn K cd5 "row_of" = true)
    (k5 : PySem.W.keepIn K (.ref f5) = true)
    (a6 : PySem.W.nsIn K mainGlobals "_law_open_cells" = some (some (.ref f6)))
    (l6 : K.lookup f6 = some ⟨oc6, od6, .func (PySem.W.fnOf "_law_open_cells" "_law_open_cells" (defArgs (topS 15)) (defBody (topS 15)) (defScope (topS 15)) .none kV6 dc6 pm6 an6 cd6 ct6), sl6⟩)
    (c6 : PySem.W.codeIn K cd6 "_law_open_cells" = true)
    (k6 : PySem.W.keepIn K (.ref f6) = true)
    (a7 : PySem.W.nsIn K mainGlobals "_law_pick" = some (some (.ref f7)))
    (l7 : K.lookup f7 = some ⟨oc7, od7, .func (PySem.W.fnOf "_law_pick" "_law_pick" (defArgs (topS 16)) (defBody (topS 16)) (defScope (topS 16)) .none kV7 dc7 pm7 an7 cd7 ct7), sl7⟩)
    (c7 : PySem.W.codeIn K cd7 "_law_pick" = true)
    (k7 : PySem.W.keepIn K (.ref f7) = true)
    (a8 : PySem.W.nsIn K mainGlobals "_law_draw_steps" = some (some (.ref f8)))
    (l8 : K.lookup f8 = some ⟨oc8, od8, .func (PySem.W.fnOf "_law_draw_steps" "_law_draw_steps" (defArgs (topS 17)) (defBody (topS 17)) (defScope (topS 17)) .none kV8 dc8 pm8 an8 cd8 ct8), sl8⟩)
    (c8 : PySem.W.codeIn K cd8 "_law_draw_steps" = true)
    (k8 : PySem.W.keepIn K (.ref f8) = true)
    (a9 : PySem.W.nsIn K mainGlobals "_law_numbers" = some (some (.ref f9)))
    (l9 : K.lookup f9 = some ⟨oc9, od9, .func (PySem.W.fnOf "_law_numbers" "_law_numbers" (defArgs (topS 18)) (defBody (topS 18)) (defScope (topS 18)) .none kV9 dc9 pm9 an9 cd9 ct9), sl9⟩)
    (c9 : PySem.W.codeIn K cd9 "_law_numbers" = true)
    (k9 : PySem.W.keepIn K (.ref f9) = true)
    (a10 : PySem.W.nsIn K mainGlobals "_law_told_row" = some (some (.ref f10)))
    (l10 : K.lookup f10 = some ⟨oc10, od10, .func (PySem.W.fnOf "_law_told_row" "_law_told_row" (defArgs (topS 19)) (defBody (topS 19)) (defScope (topS 19)) .none kV10 dc10 pm10 an10 cd10 ct10), sl10⟩)
    (c10 : PySem.W.codeIn K cd10 "_law_told_row" = true)
    (k10 : PySem.W.keepIn K (.ref f10) = true)
    (a11 : PySem.W.nsIn K mainGlobals "_law_size" = some (some (.ref f11)))
    (l11 : K.lookup f11 = some ⟨oc11, od11, .func (PySem.W.fnOf "_law_size" "_law_size" (defArgs (topS 20)) (defBody (topS 20)) (defScope (topS 20)) .none kV11 dc11 pm11 an11 cd11 ct11), sl11⟩)
    (c11 : PySem.W.codeIn K cd11 "_law_size" = true)
    (k11 : PySem.W.keepIn K (.ref f11) = true)
    (a12 : PySem.W.nsIn K mainGlobals "_law_tried" = some (some (.ref f12)))
    (l12 : K.lookup f12 = some ⟨oc12, od12, .func (PySem.W.fnOf "_law_tried" "_law_tried" (defArgs (topS 21)) (defBody (topS 21)) (defScope (topS 21)) .none kV12 dc12 pm12 an12 cd12 ct12), sl12⟩)
    (c12 : PySem.W.codeIn K cd12 "_law_tried" = true)
    (k12 : PySem.W.keepIn K (.ref f12) = true)
    (a13 : PySem.W.nsIn K mainGlobals "law" = some (some (.ref f13)))
    (l13 : K.lookup f13 = some ⟨oc13, od13, .func (PySem.W.fnOf "law" "law" (defArgs (topS 22)) (defBody (topS 22)) (defScope (topS 22)) .none kV13 dc13 pm13 an13 cd13 ct13), sl13⟩)
    (c13 : PySem.W.codeIn K cd13 "law" = true)
    (k13 : PySem.W.keepIn K (.ref f13) = true) :
    ∃ fd : FuncData, (∀ (s : Shared) (v : Value), BindsTo s fd ⟨[v], []⟩ [("_law_script", v)]) ∧ ∀ base : Heap, K.In base → base.Ns mainGlobals mg → FnOk l.prog w K mg base (L2.CX l.prog w) 205 fa fd ["_law_script"] (spLaw K 10 lawB) := by
  have e := hfa.symm.trans (PySem.W.mg_of X G a13)
  cases e
  have F0 : Fun K "parts_of" "parts_of" (topS 6) _ _ := fun_mk l0 c0 k0
  have B0 := F0.binds (ps := ["row"]) fun _ _ _ _ _ _ us hl => match us, hl with | [_], _ => rfl
  have F1 : Fun K "size_of" "size_of" (topS 7) _ _ := fun_mk l1 c1 k1
  have B1 := F1.binds (ps := ["row"]) fun _ _ _ _ _ _ us hl => match us, hl with | [_], _ => rfl
  have F2 : Fun K "numbers_in" "numbers_in" (topS 10) _ _ := fun_mk l2 c2 k2
  have B2 := F2.binds (ps := ["step"]) fun _ _ _ _ _ _ us hl => match us, hl with | [_], _ => rfl
  have F3 : Fun K "sizes" "sizes" (topS 11) _ _ := fun_mk l3 c3 k3
  have B3 := F3.binds (ps := ["steps"]) fun _ _ _ _ _ _ us hl => match us, hl with | [_], _ => rfl
  have F4 : Fun K "needed" "needed" (topS 13) _ _ := fun_mk l4 c4 k4
  have B4 := F4.binds (ps := ["steps"]) fun _ _ _ _ _ _ us hl => match us, hl with | [_], _ => rfl
  have F5 : Fun K "row_of" "row_of" (topS 12) _ _ := fun_mk l5 c5 k5
  have B5 := F5.binds (ps := ["steps"]) fun _ _ _ _ _ _ us hl => match us, hl with | [_], _ => rfl
  have F6 : Fun K "_law_open_cells" "_law_open_cells" (topS 15) _ _ := fun_mk l6 c6 k6
  have B6 := F6.binds (ps := ["_law_script"]) fun _ _ _ _ _ _ us hl => match us, hl with | [_], _ => rfl
  have F7 : Fun K "_law_pick" "_law_pick" (topS 16) _ _ := fun_mk l7 c7 k7
  have B7 := F7.binds (ps := ["_law_source", "_law_most"]) fun _ _ _ _ _ _ us hl => match us, hl with | [_, _], _ => rfl
  have F8 : Fun K "_law_draw_steps" "_law_draw_steps" (topS 17) _ _ := fun_mk l8 c8 k8
  have B8 := F8.binds (ps := ["_law_source", "_law_letters", "_law_most"]) fun _ _ _ _ _ _ us hl => match us, hl with | [_, _, _], _ => rfl
  have F9 : Fun K "_law_numbers" "_law_numbers" (topS 18) _ _ := fun_mk l9 c9 k9
  have B9 := F9.binds (ps := ["_law_step"]) fun _ _ _ _ _ _ us hl => match us, hl with | [_], _ => rfl
  have F10 : Fun K "_law_told_row" "_law_told_row" (topS 19) _ _ := fun_mk l10 c10 k10
  have B10 := F10.binds (ps := ["_law_steps"]) fun _ _ _ _ _ _ us hl => match us, hl with | [_], _ => rfl
  have F11 : Fun K "_law_size" "_law_size" (topS 20) _ _ := fun_mk l11 c11 k11
  have B11 := F11.binds (ps := ["_law_steps"]) fun _ _ _ _ _ _ us hl => match us, hl with | [_], _ => rfl
  have F12 : Fun K "_law_tried" "_law_tried" (topS 21) _ _ := fun_mk l12 c12 k12
  have B12 := F12.binds (ps := ["_law_steps"]) fun _ _ _ _ _ _ us hl => match us, hl with | [_], _ => rfl
  have F13 : Fun K "law" "law" (topS 22) _ _ := fun_mk l13 c13 k13
  have B13 := F13.binds (ps := ["_law_script"]) fun _ _ _ _ _ _ us hl => match us, hl with | [_], _ => rfl
  have W : Fx l.prog K mg := ⟨PySem.W.mg_none_of X G z0,
    PySem.W.mg_none_of X G z1,
    PySem.W.mg_none_of X G z2,
    PySem.W.mg_none_of X G z3,
    PySem.W.mg_none_of X G z4,
    PySem.W.mg_none_of X G z5,
    PySem.W.mg_none_of X G z6,
    PySem.W.mg_none_of X G z7,
    PySem.W.mg_none_of X G z8,
    PySem.W.mg_none_of X G z9,
    PySem.W.mg_none_of X G z10,
    ⟨_, PySem.W.mg_of X G gc0⟩,
    ⟨_, PySem.W.mg_of X G gc1⟩,
    ⟨_, PySem.W.mg_of X G gc2⟩,
    ⟨C0, PySem.W.mg_of X G xa0, ⟨⟨⟨_, _, _, _, _, _, _, _, _, _, _, _, _, _, _, xl0, xb0⟩, xs0, xe0, xt0, xk0⟩, ⟨_, _, _, _, _, _, _, _, _, _, _, _, _, _, _, _, _, _, _, _, xi0, xf0, xg0, xh0, xc0, xv0, xw0, xd0⟩, xm0, xn0, xo0, xp0⟩, xq0⟩,
    ⟨_, _, PySem.W.mg_of X G a0, F0, B0⟩,
    ⟨_, _, PySem.W.mg_of X G a1, F1, B1⟩,
    ⟨_, _, PySem.W.mg_of X G a2, F2, B2⟩,
    ⟨_, _, PySem.W.mg_of X G a3, F3, B3⟩,
    ⟨_, _, PySem.W.mg_of X G a4, F4, B4⟩,
    ⟨_, _, PySem.W.mg_of X G a5, F5, B5⟩,
    ⟨_, _, PySem.W.mg_of X G a6, F6, B6⟩,
    ⟨_, _, PySem.W.mg_of X G a7, F7, B7⟩,
    ⟨_, _, PySem.W.mg_of X G a8, F8, B8⟩,
    ⟨_, _, PySem.W.mg_of X G a9, F9, B9⟩,
    ⟨_, _, PySem.W.mg_of X G a10, F10, B10⟩,
    ⟨_, _, PySem.W.mg_of X G a11, F11, B11⟩,
    ⟨_, _, PySem.W.mg_of X G a12, F12, B12⟩,
    ⟨_, _, PySem.W.mg_of X G a13, F13, B13⟩⟩
  refine ⟨PySem.W.fnOf "law" "law" (defArgs (topS 22)) (defBody (topS 22)) (defScope (topS 22)) .none kV13 dc13 pm13 an13 cd13 ct13, fun s v => .of_eq rfl, fun base _ _ => ?_⟩
  have D_parts_of : Df l.prog w K mg base ⟨K, fun _ => none, excM mg⟩ 1 "parts_of" ["row"] parts_ofF := df_parts_of W (k := 0) 
  have R_size_of : ∀ j, Df l.prog w K mg base ⟨K, fun _ => none, excM mg⟩ (2 + j) "size_of" ["row"] (size_ofN j) := fun j => by
    induction j with
    | zero =>
      obtain ⟨f, fd, hm, Fn, hb⟩ := W.f_size_of
      exact (df_zero Fn hm hb).mono (Nat.zero_le _)
    | succ j ih => exact df_size_of W (k := 2 + j) (D_parts_of.mono (by omega)) ih
  have D_size_of : Df l.prog w K mg base ⟨K, fun _ => none, excM mg⟩ 204 "size_of" ["row"] size_ofF := R_size_of 202
  have D_numbers_in : Df l.prog w K mg base ⟨K, fun _ => none, excM mg⟩ 1 "numbers_in" ["step"] numbers_inF := df_numbers_in W (k := 0) 
  have D_sizes : Df l.prog w K mg base ⟨K, fun _ => none, excM mg⟩ 2 "sizes" ["steps"] sizesF := df_sizes W (k := 1) (D_numbers_in.mono (by omega))
  have D_needed : Df l.prog w K mg base ⟨K, fun _ => none, excM mg⟩ 2 "needed" ["steps"] neededF := df_needed W (k := 1) (D_numbers_in.mono (by omega))
  have D_row_of : Df l.prog w K mg base ⟨K, fun _ => none, excM mg⟩ 3 "row_of" ["steps"] row_ofF := df_row_of W (k := 2) (D_needed.mono (by omega)) (D_sizes.mono (by omega)) (D_numbers_in.mono (by omega))
  have op := ok__law_open_cells (P := l.prog) (w := w) (base := base) W (k := 203)
  have D__law_pick : Df l.prog w K mg base ⟨K, fun _ => none, excM mg⟩ 1 "_law_pick" ["_law_source", "_law_most"] _law_pickF := df__law_pick W (k := 0) 
  have D__law_draw_steps : Df l.prog w K mg base ⟨K, fun _ => none, excM mg⟩ 2 "_law_draw_steps" ["_law_source", "_law_letters", "_law_most"] _law_draw_stepsF := df__law_draw_steps W (k := 1) (D__law_pick.mono (by omega))
  have D__law_numbers : Df l.prog w K mg base ⟨K, fun _ => none, excM mg⟩ 1 "_law_numbers" ["_law_step"] _law_numbersF := df__law_numbers W (k := 0) 
  have D__law_told_row : Df l.prog w K mg base ⟨K, fun _ => none, excM mg⟩ 2 "_law_told_row" ["_law_steps"] _law_told_rowF := df__law_told_row W (k := 1) (D__law_numbers.mono (by omega))
  have D__law_size : Df l.prog w K mg base ⟨K, fun _ => none, excM mg⟩ 2 "_law_size" ["_law_steps"] _law_sizeF := df__law_size W (k := 1) (D__law_numbers.mono (by omega))
  have D__law_tried : Df l.prog w K mg base ⟨K, fun _ => none, excM mg⟩ 4 "_law_tried" ["_law_steps"] _law_triedF := df__law_tried W (k := 3) (D_row_of.mono (by omega))
  exact ok_law W (k := 204) op (D__law_draw_steps.mono (by omega)) (D__law_size.mono (by omega)) (D__law_told_row.mono (by omega)) (D__law_tried.mono (by omega)) (D_size_of.mono (by omega)) (D_row_of.mono (by omega)) (D__law_pick.mono (by omega)) F13
end K32
open PySem PySem.W PyProof.Rows
set_option maxRecDepth 100000 in
set_option maxHeartbeats 0 in
theorem PySem.Challenge.cw_everrows_k32_rows_of_steps_holds : PySem.Challenge.rw_everrows_k32_rows_of_steps.Holds := by
  w_on; o_law; k_head; (case hw => w_witness2)
  k_fill
  refine L2.walk_of (l := PySem.Challenge.rw_everrows_k32_rows_of_steps) (n := 63) (k := 205) (x := "_law_script") (CX := fun w => L2.CX PySem.Challenge.rw_everrows_k32_rows_of_steps.prog w) (sp := fun w => EV.spLaw _ 10 K32.lawB) rfl (by decide) rfl ⟨rfl, by decide, by decide⟩ (fun w h Y => PySem.W.kIn_of Y) ?F (fun _ _ a ns hl _ hS => ⟨a, ns, rfl, hS, hl, K32.law_true ns, fun _ => rfl⟩) (fun _ _ _ _ _ z => by
    obtain ⟨_, _, _, _, _, _, _, _, _, _, _, _, y⟩ := z
    exact y)
  case F =>
    intro w mg fa h KX G hmg
    refine' K32.all_mk KX G hmg ?z0 ?z1 ?z2 ?z3 ?z4 ?z5 ?z6 ?z7 ?z8 ?z9 ?z10 ?gc0 ?gc1 ?gc2 ?xa0 ?xl0 ?xb0 ?xs0 ?xe0 ?xt0 ?xk0 ?xi0 ?xf0 ?xg0 ?xh0 ?xc0 ?xv0 ?xw0 ?xd0 ?xm0 ?xn0 ?xo0 ?xp0 ?xq0 ?a0 ?l0 ?c0 ?k0 ?a1 ?l1 ?c1 ?k1 ?a2 ?l2 ?c2 ?k2 ?a3 ?l3 ?c3 ?k3 ?a4 ?l4 ?c4 ?k4 ?a5 ?l5 ?c5 ?k5 ?a6 ?l6 ?c6 ?k6 ?a7 ?l7 ?c7 ?k7 ?a8 ?l8 ?c8 ?k8 ?a9 ?l9 ?c9 ?k9 ?a10 ?l10 ?c10 ?k10 ?a11 ?l11 ?c11 ?k11 ?a12 ?l12 ?c12 ?k12 ?a13 ?l13 ?c13 ?k13
    (case z0 => k_is)
    (case z1 => k_is)
    (case z2 => k_is)
    (case z3 => k_is)
    (case z4 => k_is)
    (case z5 => k_is)
    (case z6 => k_is)
    (case z7 => k_is)
    (case z8 => k_is)
    (case z9 => k_is)
    (case z10 => k_is)
    (case gc0 => k_is)
    (case gc1 => k_is)
    (case gc2 => k_is)
    (case xa0 => k_is)
    (case xl0 => k_is)
    (case xb0 => exact rfl)
    (case xs0 => k_is)
    (case xe0 => k_is)
    (case xt0 => k_is)
    (case xk0 => k_is)
    (case xi0 => k_is)
    (case xf0 => k_is)
    (case xg0 => k_is)
    (case xh0 => k_is)
    (case xc0 => k_is)
    (case xv0 => exact rfl)
    (case xw0 => decide +kernel)
    (case xd0 => k_is)
    (case xm0 => first | exact rfl | kernel_rfl)
    (case xn0 => k_is)
    (case xo0 => k_is)
    (case xp0 => exact rfl)
    (case xq0 => first | exact rfl | kernel_rfl)
    (case a0 => k_is)
    (case l0 => k_is)
    (case c0 => k_is)
    (case k0 => k_is)
    (case a1 => k_is)
    (case l1 => k_is)
    (case c1 => k_is)
    (case k1 => k_is)
    (case a2 => k_is)
    (case l2 => k_is)
    (case c2 => k_is)
    (case k2 => k_is)
    (case a3 => k_is)
    (case l3 => k_is)
    (case c3 => k_is)
    (case k3 => k_is)
    (case a4 => k_is)
    (case l4 => k_is)
    (case c4 => k_is)
    (case k4 => k_is)
    (case a5 => k_is)
    (case l5 => k_is)
    (case c5 => k_is)
    (case k5 => k_is)
    (case a6 => k_is)
    (case l6 => k_is)
    (case c6 => k_is)
    (case k6 => k_is)
    (case a7 => k_is)
    (case l7 => k_is)
    (case c7 => k_is)
    (case k7 => k_is)
    (case a8 => k_is)
    (case l8 => k_is)
    (case c8 => k_is)
    (case k8 => k_is)
    (case a9 => k_is)
    (case l9 => k_is)
    (case c9 => k_is)
    (case k9 => k_is)
    (case a10 => k_is)
    (case l10 => k_is)
    (case c10 => k_is)
    (case k10 => k_is)
    (case a11 => k_is)
    (case l11 => k_is)
    (case c11 => k_is)
    (case k11 => k_is)
    (case a12 => k_is)
    (case l12 => k_is)
    (case c12 => k_is)
    (case k12 => k_is)
    (case a13 => k_is)
    (case l13 => k_is)
    (case c13 => k_is)
    (case k13 => k_is)
#print axioms PySem.Challenge.cw_everrows_k32_rows_of_steps_holds
