import PyProof.Rows.All
import Wide.All
import OpenK.AllK
import Wide.FinOn
import HandS.ForMost
import HandS.Exc
import HandS.Walk
import HandS.Lambda
import HandS.Conv
import HandS.TupAny
import HandS.IsInst
import HandS.Zip
import HandS.Defaults
import HandS.TupMul
import HandS.Deep
import HandS.Style
import HandS.WordsDict
import HandS.TupLen
import HandS.More
import KE.SortData
import KE.DataMinMax
import HandS.HeadHook1
import HandS.ExcOwn
import HandS.WordsExc
import PyProof.ExcBaseAll.ValueError
import HandS.Small
import HandS.HeadHook2
import HandS.Head0
import HandS.Head1
import HandS.Head2
import HandS.HeadEnd
import PySem.Challenge.RW_scriptoria_k61_whole_sheets_dealt
set_option Elab.async false
set_option maxRecDepth 100000
section
set_option Elab.async false
set_option linter.all false
set_option maxRecDepth 100000
namespace Pu
open PySem PySem.Spec PyProof.Rows L2

/-- a dict's key -/
inductive DK where
  | i (i : Int) | s (s : List Nat) | t (ks : List (Sum Int (List Nat)))
  deriving DecidableEq

/-- a value, whole -/
inductive PV where
  | non | bl (b : Bool) | int (i : Int) | str (s : List Nat)
  | tup (xs : List PV) | lst (xs : List PV)
  | dic (t : Bool) (ks : List DK) (vs : List PV)
  | scr (xs : List PV)
  | fn (i : Nat)

/-- what a name holds: nothing; a value that stays; a list, a dict of its own -/
inductive Slot where
  | emp | val (p : PV) | own (xs : List PV) | ownD (t : Bool) (ks : List DK) (vs : List PV)
abbrev Sl := List Slot

/-- what stands outside: where defs and classes stand, the tables -/
structure Th where
  fa : Nat → Addr
  ca : Nat → Addr
  fld : Nat → Str
  T : List (Addr × Str)

def strV (s : List Nat) : Str := ⟨s.toArray⟩
def dkK : DK → Option Key
  | .i n => some (.inl n)
  | .s z => some (.inr (strV z))
  | .t _ => none
def dkT : DK → Option (List Key)
  | .t ks => some (ks.map fun | .inl n => .inl n | .inr z => .inr (strV z))
  | _ => none

mutual
def Rp (G : Th) (F : Addr → Prop) (H : Hp) : PV → V → Prop
  | .non, x => x = .non
  | .bl b, x => x = .bl b
  | .int i, x => x = .int i
  | .str s, x => x = .str (strV s) ∧ PyData.strOk (strV s) = true ∧ s.length ≤ sizeLine
  | .tup ps, x => ∃ a vs, x = .ref a ∧ F a ∧ H a = some (.tup vs) ∧ vs.length ≤ sizeLine ∧ RpA G F H ps vs
  | .lst ps, x => ∃ a vs, x = .ref a ∧ F a ∧ H a = some (.lst vs) ∧ vs.length ≤ sizeLine ∧ RpA G F H ps vs
  | .dic false ks ps, x => ∃ (a : Addr) (ms : List Key) (vs : List V), x = .ref a ∧ F a ∧ H a = some (.dK (ms.zip vs)) ∧ ms.length = vs.length ∧ vs.length ≤ sizeLine ∧ ks.map dkK = ms.map some ∧ RpA G F H ps vs
  | .dic true ks ps, x => ∃ (a : Addr) (ms : List (List Key)) (vs : List V), x = .ref a ∧ F a ∧ H a = some (.dT (ms.zip vs)) ∧ ms.length = vs.length ∧ vs.length ≤ sizeLine ∧ ks.map dkT = ms.map some ∧ RpA G F H ps vs
  | .scr ps, x => ∃ a vs o, x = .ref a ∧ F a ∧ H a = some (.frz o (.lst vs)) ∧ vs.length ≤ sizeLine ∧ RpA G F H ps vs
  | .fn i, x => x = .ref (G.fa i)
def RpA (G : Th) (F : Addr → Prop) (H : Hp) : List PV → List V → Prop
  | [], [] => True
  | p :: ps, v :: vs => Rp G F H p v ∧ RpA G F H ps vs
  | _, _ => False
end

section
variable {G : Th} {F F' : Addr → Prop} {H H' : Hp}
theorem RpA.length : ∀ {ps : List PV} {vs : List V}, RpA G F H ps vs → ps.length = vs.length
  | [], [], _ => rfl
  | p :: ps, v :: vs, h => by
    unfold RpA at h
    rw [List.length_cons, List.length_cons, RpA.length h.2]
  | [], _ :: _, h => by unfold RpA at h; exact h.elim
  | _ :: _, [], h => by unfold RpA at h; exact h.elim
theorem RpA.nil : RpA G F H [] [] := by unfold RpA; trivial
theorem RpA.cons {p : PV} {v : V} {ps : List PV} {vs : List V} (h : Rp G F H p v) (t : RpA G F H ps vs) : RpA G F H (p :: ps) (v :: vs) := by unfold RpA; exact ⟨h, t⟩
theorem RpA.inv {p : PV} {ps : List PV} {vs : List V} (h : RpA G F H (p :: ps) vs) : ∃ v ws, vs = v :: ws ∧ Rp G F H p v ∧ RpA G F H ps ws := by
  cases vs with
  | nil => unfold RpA at h; exact h.elim
  | cons v ws => unfold RpA at h; exact ⟨v, ws, rfl, h.1, h.2⟩
theorem RpA.inv0 {vs : List V} (h : RpA G F H [] vs) : vs = [] := by
  cases vs with
  | nil => rfl
  | cons v ws => unfold RpA at h; exact h.elim
theorem RpA.get : ∀ {ps : List PV} {vs : List V} {i : Nat} {p : PV}, RpA G F H ps vs → ps[i]? = some p → ∃ v, vs[i]? = some v ∧ Rp G F H p v
  | [], _, _, _, _, e => by simp at e
  | q :: ps, vs, i, p, h, e => by
    obtain ⟨v, ws, rfl, h1, h2⟩ := h.inv
    cases i with
    | zero => simp at e; subst e; exact ⟨v, rfl, h1⟩
    | succ i =>
      obtain ⟨u, e1, e2⟩ := RpA.get (i := i) (p := p) h2 (by simpa using e)
      exact ⟨u, by simpa using e1, e2⟩
theorem RpA.append : ∀ {ps qs : List PV} {vs ws : List V}, RpA G F H ps vs → RpA G F H qs ws → RpA G F H (ps ++ qs) (vs ++ ws)
  | [], _, _, _, h, k => by rw [h.inv0]; exact k
  | p :: ps, qs, vs, ws, h, k => by
    obtain ⟨v, vs', rfl, h1, h2⟩ := h.inv
    exact RpA.cons h1 (RpA.append h2 k)
theorem RpA.take : ∀ {ps : List PV} {vs : List V} (n : Nat), RpA G F H ps vs → RpA G F H (ps.take n) (vs.take n)
  | _, _, 0, _ => by simp; exact RpA.nil
  | [], vs, n + 1, h => by rw [h.inv0]; simp; exact RpA.nil
  | p :: ps, vs, n + 1, h => by
    obtain ⟨v, vs', rfl, h1, h2⟩ := h.inv
    exact RpA.cons h1 (RpA.take n h2)
theorem RpA.drop : ∀ {ps : List PV} {vs : List V} (n : Nat), RpA G F H ps vs → RpA G F H (ps.drop n) (vs.drop n)
  | _, _, 0, h => h
  | [], vs, n + 1, h => by rw [h.inv0]; simp; exact RpA.nil
  | p :: ps, vs, n + 1, h => by
    obtain ⟨v, vs', rfl, h1, h2⟩ := h.inv
    exact RpA.drop n h2
theorem RpA.set {p : PV} {v : V} (r : Rp G F H p v) : ∀ {ps : List PV} {vs : List V} (i : Nat), RpA G F H ps vs → RpA G F H (ps.set i p) (vs.set i v)
  | [], vs, _, h => by rw [h.inv0]; exact RpA.nil
  | q :: ps, vs, 0, h => by
    obtain ⟨u, vs', rfl, h1, h2⟩ := h.inv
    exact RpA.cons r h2
  | q :: ps, vs, i + 1, h => by
    obtain ⟨u, vs', rfl, h1, h2⟩ := h.inv
    exact RpA.cons h1 (RpA.set r i h2)
theorem RpA.eraseIdx : ∀ {ps : List PV} {vs : List V} (i : Nat), RpA G F H ps vs → RpA G F H (ps.eraseIdx i) (vs.eraseIdx i)
  | [], vs, _, h => by rw [h.inv0]; exact RpA.nil
  | q :: ps, vs, 0, h => by
    obtain ⟨u, vs', rfl, h1, h2⟩ := h.inv
    exact h2
  | q :: ps, vs, i + 1, h => by
    obtain ⟨u, vs', rfl, h1, h2⟩ := h.inv
    exact RpA.cons h1 (RpA.eraseIdx i h2)
theorem RpA.reverse : ∀ {ps : List PV} {vs : List V}, RpA G F H ps vs → RpA G F H ps.reverse vs.reverse
  | [], vs, h => by rw [h.inv0]; exact RpA.nil
  | q :: ps, vs, h => by
    obtain ⟨u, vs', rfl, h1, h2⟩ := h.inv
    rw [List.reverse_cons, List.reverse_cons]
    exact RpA.append (RpA.reverse h2) (RpA.cons h1 RpA.nil)
theorem RpA.rep {ps : List PV} {vs : List V} (h : RpA G F H ps vs) : ∀ k : Nat, RpA G F H (List.replicate k ps).flatten (List.replicate k vs).flatten
  | 0 => RpA.nil
  | k + 1 => by
    rw [List.replicate_succ, List.replicate_succ, List.flatten_cons, List.flatten_cons]
    exact RpA.append h (RpA.rep h k)

mutual
theorem Rp.mono (fz : ∀ a, F a → F' a) (kp : ∀ a o, F a → H a = some o → (∀ ps, o ≠ .tbl ps) → H' a = some o) : ∀ (p : PV) (x : V), Rp G F H p x → Rp G F' H' p x
  | .non, _, h => by unfold Rp at h ⊢; exact h
  | .bl _, _, h => by unfold Rp at h ⊢; exact h
  | .int _, _, h => by unfold Rp at h ⊢; exact h
  | .str _, _, h => by unfold Rp at h ⊢; exact h
  | .fn _, _, h => by unfold Rp at h ⊢; exact h
  | .tup ps, _, h => by
    unfold Rp at h ⊢
    obtain ⟨a, vs, e, f, hh, hz, r⟩ := h
    exact ⟨a, vs, e, fz a f, kp a _ f hh (fun _ z => nomatch z), hz, RpA.mono fz kp ps vs r⟩
  | .lst ps, _, h => by
    unfold Rp at h ⊢
    obtain ⟨a, vs, e, f, hh, hz, r⟩ := h
    exact ⟨a, vs, e, fz a f, kp a _ f hh (fun _ z => nomatch z), hz, RpA.mono fz kp ps vs r⟩
  | .dic false ks ps, _, h => by
    unfold Rp at h ⊢
    obtain ⟨a, ms, vs, e, f, hh, hz, hz2, hk, r⟩ := h
    exact ⟨a, ms, vs, e, fz a f, kp a _ f hh (fun _ z => nomatch z), hz, hz2, hk, RpA.mono fz kp ps vs r⟩
  | .dic true ks ps, _, h => by
    unfold Rp at h ⊢
    obtain ⟨a, ms, vs, e, f, hh, hz, hz2, hk, r⟩ := h
    exact ⟨a, ms, vs, e, fz a f, kp a _ f hh (fun _ z => nomatch z), hz, hz2, hk, RpA.mono fz kp ps vs r⟩
  | .scr ps, _, h => by
    unfold Rp at h ⊢
    obtain ⟨a, vs, o, e, f, hh, hz, r⟩ := h
    exact ⟨a, vs, o, e, fz a f, kp a _ f hh (fun _ z => nomatch z), hz, RpA.mono fz kp ps vs r⟩
theorem RpA.mono (fz : ∀ a, F a → F' a) (kp : ∀ a o, F a → H a = some o → (∀ ps, o ≠ .tbl ps) → H' a = some o) : ∀ (ps : List PV) (vs : List V), RpA G F H ps vs → RpA G F' H' ps vs
  | [], vs, h => by rw [h.inv0]; exact RpA.nil
  | p :: ps, vs, h => by
    obtain ⟨v, ws, rfl, h1, h2⟩ := h.inv
    exact RpA.cons (Rp.mono fz kp p v h1) (RpA.mono fz kp ps ws h2)
end
end

/-- what stands in P must not change, what is in F stays -/
structure Ext (G : Th) (P F : Addr → Prop) (H : Hp) (F' : Addr → Prop) (H' : Hp) : Prop where
  fz : ∀ a, F a → F' a
  keep : ∀ a o, F a ∨ P a → H a = some o → (∀ ps, o ≠ .tbl ps) → H' a = some o
  prot : ∀ a, P a → ¬ F' a
  there : ∀ a o, H a = some o → ∃ o', H' a = some o'
  tabs : LamX.Tabs G.T H → LamX.Tabs G.T H'
  dom : ∀ a, F' a → ∃ o, H' a = some o
/-- what must hold at any time -/
structure Pre (G : Th) (P F : Addr → Prop) (H : Hp) : Prop where
  pd : ∀ a, P a → ∃ o, H a = some o ∧ ∀ ps, o ≠ .tbl ps
  pf : ∀ a, P a → ¬ F a
  tabs : LamX.Tabs G.T H
  fd : ∀ a, F a → ∃ o, H a = some o

section
variable {G : Th} {P F F' F2 : Addr → Prop} {H H' H2 : Hp}
theorem Ext.refl (p : Pre G P F H) : Ext G P F H F H := ⟨fun _ h => h, fun _ _ _ h _ => h, p.pf, fun _ o h => ⟨o, h⟩, fun h => h, p.fd⟩
theorem Ext.trans (a : Ext G P F H F' H') (b : Ext G P F' H' F2 H2) : Ext G P F H F2 H2 :=
  ⟨fun x h => b.fz x (a.fz x h), fun x o h e n => b.keep x o (h.elim (fun z => .inl (a.fz x z)) .inr) (a.keep x o h e n) n, b.prot,
   fun x o h => let ⟨o', h'⟩ := a.there x o h; b.there x o' h', fun h => b.tabs (a.tabs h), b.dom⟩
theorem Ext.pre (a : Ext G P F H F' H') (p : Pre G P F H) : Pre G P F' H' :=
  ⟨fun x h => let ⟨o, e, n⟩ := p.pd x h; ⟨o, a.keep x o (.inr h) e n, n⟩, a.prot, a.tabs p.tabs, a.dom⟩
theorem Ext.rp (a : Ext G P F H F' H') {p : PV} {x : V} (r : Rp G F H p x) : Rp G F' H' p x := Rp.mono a.fz (fun b o f e n => a.keep b o (.inl f) e n) p x r
theorem Ext.rpA (a : Ext G P F H F' H') {ps : List PV} {xs : List V} (r : RpA G F H ps xs) : RpA G F' H' ps xs := RpA.mono a.fz (fun b o f e n => a.keep b o (.inl f) e n) ps xs r
/-- a fresh place -/
theorem Ext.nope (a : Ext G P F H F' H') {x : Addr} (h : H' x = none) : H x = none := by
  cases e : H x with
  | none => rfl
  | some o => obtain ⟨o', e'⟩ := a.there x o e; rw [h] at e'; cases e'
theorem Tabs.upd {a : Addr} {o : HO} (t : LamX.Tabs G.T H) (h : H a = none) : LamX.Tabs G.T (upd H a o) := t.ext fun b u e => by rw [upd_ne (ne_of_none e h)]; exact e
/-- a new object, not yet told of -/
theorem Ext.fresh (p : Pre G P F H) {a : Addr} {o : HO} (h : H a = none) : Ext G P F H F (upd H a o) :=
  ⟨fun _ h => h, fun b u _ e _ => by rw [upd_ne (ne_of_none e h)]; exact e, p.pf, fun b u e => ⟨u, by rw [upd_ne (ne_of_none e h)]; exact e⟩, fun t => Tabs.upd t h,
   fun b f => let ⟨u, e⟩ := p.fd b f; ⟨u, by rw [upd_ne (ne_of_none e h)]; exact e⟩⟩
/-- an object becomes one that stays -/
theorem Ext.freeze (p : Pre G P F H) {a : Addr} (h : ¬ P a) (ho : ∃ o, H a = some o) : Ext G P F H (fun b => b = a ∨ F b) H :=
  ⟨fun _ h => .inr h, fun b u _ e _ => e, fun b pb q => q.elim (fun e => h (e ▸ pb)) (p.pf b pb), fun b u e => ⟨u, e⟩, fun t => t, fun b z => z.elim (fun e => e ▸ ho) (p.fd b)⟩
theorem Pre.fresh (p : Pre G P F H) {a : Addr} (h : H a = none) : ¬ P a := fun z => by obtain ⟨o, e, _⟩ := p.pd a z; rw [h] at e; cases e
theorem Pre.freshF (p : Pre G P F H) {a : Addr} (h : H a = none) : ¬ F a := fun z => by obtain ⟨o, e⟩ := p.fd a z; rw [h] at e; cases e
theorem Ext.new (p : Pre G P F H) {a : Addr} {o : HO} (h : H a = none) : Ext G P F H (fun b => b = a ∨ F b) (upd H a o) :=
  (Ext.fresh p h).trans (Ext.freeze ((Ext.fresh p h).pre p) (p.fresh h) ⟨o, upd_same⟩)
end
end Pu
end

section
set_option Elab.async false
set_option linter.all false
set_option maxRecDepth 100000
namespace Pu
open PySem PySem.Spec PyProof.Rows L2

inductive BOp where
  | add | sub | mul | fdiv | mod | pow | shl
  deriving DecidableEq
inductive COp where
  | eq | ne | lt | le | gt | ge | isin | notin | is_ | isnot
  deriving DecidableEq
inductive B1 where
  | abs | all | any | dict (t : Bool) | int | len | list | max | min | repr | sorted | sortedSet | str | sum | tuple
  deriving DecidableEq
inductive B2 where
  | max2 | min2
  deriving DecidableEq
inductive M1 where
  | join | split | index | count | get
  deriving DecidableEq
inductive M2 where
  | get | find
  deriving DecidableEq
/-- a target -/
inductive Tg where
  | nm (i : Nat) | tp (l : Tg) | nil | cons (a b : Tg)
/-- a type's name in isinstance -/
inductive TyN where
  | int | bool | str | tuple | list | dict | none | seq
  deriving DecidableEq

inductive PX where
  | k (c : PV) | var (i : Nat)
  | bin (o : BOp) (a b : PX) | neg (a : PX) | not (a : PX) | one (a : PX) | and (a b : PX) | or (a b : PX) | ife (c a b : PX)
  | cmp (o : COp) (a b : PX) | chain (o o' : COp) (a b c : PX)
  | nil | cons (a b : PX)
  | tup (l : PX) | lst (l : PX) | dict0 (t : Bool) | dict1 (a b : PX)
  | ix (a b : PX) | ixS (i : Nat) (b : PX) | sl (a lo hi : PX) | rev (a : PX)
  | b1 (f : B1) (a : PX) | b2 (f : B2) (a b : PX) | lenS (i : Nat) | isi (a : PX) (t : TyN)
  | m1 (f : M1) (a b : PX) | m2 (f : M2) (a b c : PX) | getS (i : Nat) (a b : PX) | getS1 (i : Nat) (a : PX) | inS (neg : Bool) (a : PX) (i : Nat)
  | popS (i : Nat) (a : PX) | pop0 (i : Nat)
  | call (f : Nat) (l : PX) | callF (f : Nat) (l : PX) | callIO (f i : Nat) (l : PX) | callV (i : Nat) (l : PX)
  | rng1 (a : PX) | rng2 (a b : PX) | rng3 (a b : PX) (c : Int) | enum (a : PX) | enum2 (a b : PX) | zip (a b : PX)
  | comp (vs : List Nat) (tg : Tg) (it c e : PX)
  | dcomp (t : Bool) (vs : List Nat) (tg : Tg) (it c kx vx : PX)

/-- what running gives -/
inductive R (α : Type) where
  | ok (a : α) (ρ : Sl) | exc (c : Nat) (vs : List PV) (ρ : Sl) | stuck
inductive Outc where
  | val (v : PV) (io : List PV) | exc (c : Nat) (vs : List PV) (io : List PV) | stuck
def R.bind {α β : Type} : R α → (α → Sl → R β) → R β
  | .ok a ρ, f => f a ρ
  | .exc c vs ρ, _ => .exc c vs ρ
  | .stuck, _ => .stuck
def R.of {α : Type} (o : Option α) (ρ : Sl) : R α := match o with
  | some a => .ok a ρ
  | none => .stuck

abbrev big : Nat := 16777216

mutual
def PV.beq : PV → PV → Bool
  | .non, .non => true
  | .bl a, .bl b => a == b
  | .bl a, .int j => (if a then 1 else 0) == j
  | .int i, .bl b => i == (if b then 1 else 0)
  | .int i, .int j => i == j
  | .str x, .str y => x == y
  | .lst xs, .lst ys => PV.beqA xs ys
  | .tup xs, .tup ys => PV.beqA xs ys
  | _, _ => false
def PV.beqA : List PV → List PV → Bool
  | [], [] => true
  | x :: xs, y :: ys => PV.beq x y && PV.beqA xs ys
  | _, _ => false
end
mutual
def PV.eqOk : Nat → PV → Bool
  | _, .non | _, .bl _ | _, .int _ | _, .str _ => true
  | n + 1, .lst xs | n + 1, .tup xs => PV.eqOkA n xs
  | _, _ => false
def PV.eqOkA : Nat → List PV → Bool
  | _, [] => true
  | n, x :: xs => PV.eqOk n x && PV.eqOkA n xs
end
def pveq (a b : PV) : Option Bool := if PV.eqOk 64 a && PV.eqOk 64 b then some (PV.beq a b) else none

def binop : BOp → PV → PV → Option PV
  | .add, .int i, .int j => some (.int (i + j))
  | .add, .str s, .str t => if s.length + t.length ≤ big then some (.str (s ++ t)) else none
  | .add, .tup s, .tup t => if s.length + t.length ≤ big then some (.tup (s ++ t)) else none
  | .add, .lst s, .lst t => if s.length + t.length ≤ big then some (.lst (s ++ t)) else none
  | .sub, .int i, .int j => some (.int (i - j))
  | .mul, .int i, .int j => if (-(2 ^ 64) < i ∧ i < 2 ^ 64) ∨ (-(2 ^ 64) < j ∧ j < 2 ^ 64) then some (.int (i * j)) else none
  | .mul, .lst s, .int k => if -(2 ^ 63) ≤ k ∧ k < 2 ^ 63 ∧ s.length * k.toNat ≤ big then some (.lst (List.replicate k.toNat s).flatten) else none
  | .mul, .tup s, .int k => if s.isEmpty = false ∧ 2 ≤ k ∧ k ≤ 1000 ∧ s.length ≤ 1000 then some (.tup (List.replicate k.toNat s).flatten) else none
  | .fdiv, .int i, .int j => if 0 < j ∧ j < 1073741824 then some (.int (i / j)) else none
  | .mod, .int i, .int j => if 0 < j then some (.int (i % j)) else none
  | .pow, .int i, .int j => if 0 ≤ j ∧ j ≤ 1000000 ∧ i.natAbs < 2 ^ 64 then some (.int (i ^ j.toNat)) else none
  | .shl, .int i, .int j => if 0 ≤ j ∧ j ≤ 1000000 ∧ i.natAbs < 2 ^ 64 then some (.int (i * 2 ^ j.toNat)) else none
  | _, _, _ => none

/-- codes in order -/
def strLt (a b : List Nat) : Bool := decide (a < b)
def strLe (a b : List Nat) : Bool := !decide (b < a)

/-- x stands among xs -/
def pvin (x : PV) (xs : List PV) : Option Bool := if PV.eqOk 64 x && PV.eqOkA 63 xs then some (xs.any fun z => PV.beq z x) else none
def flatP : PV → Bool
  | .non | .bl _ | .int _ | .str _ => true
  | _ => false
def pvinF (x : PV) (xs : List PV) : Option Bool := if flatP x && xs.all flatP then some (xs.any fun z => PV.beq z x) else none
def PV.isNon : PV → Bool
  | .non => true
  | _ => false
def keyS : PV → Option (Sum Int (List Nat))
  | .int i => some (.inl i)
  | .str s => some (.inr s)
  | _ => none
def keyL : List PV → Option (List (Sum Int (List Nat)))
  | [] => some []
  | x :: xs => match keyS x, keyL xs with
    | some k, some ks => some (k :: ks)
    | _, _ => none
def keyOf : Bool → PV → Option DK
  | false, .int i => some (.i i)
  | false, .str s => some (.s s)
  | true, .tup xs => (keyL xs).map .t
  | _, _ => none
def dkPV : DK → PV
  | .i i => .int i
  | .s s => .str s
  | .t ks => .tup (ks.map fun | .inl i => .int i | .inr s => .str s)
def dget : List DK → List PV → DK → Option PV
  | k :: ks, v :: vs, x => if k = x then some v else dget ks vs x
  | _, _, _ => none
def dputV (ks : List DK) (vs : List PV) (x : DK) (y : PV) : List PV :=
  if ks.any (fun k => decide (k = x)) then List.zipWith (fun k v => if k = x then y else v) ks vs else vs ++ [y]
def dputK (ks : List DK) (x : DK) : List DK := if ks.any (fun k => decide (k = x)) then ks else ks ++ [x]
def isPre : List Nat → List Nat → Bool
  | [], _ => true
  | x :: xs, y :: ys => x == y && isPre xs ys
  | _ :: _, [] => false
def isSub (a : List Nat) : List Nat → Bool
  | [] => isPre a []
  | y :: ys => isPre a (y :: ys) || isSub a ys

def ltP : PV → PV → Option Bool
  | .int i, .int j => some (decide (i < j))
  | .str s, .str t => some (strLt s t)
  | _, _ => none
def leP : PV → PV → Option Bool
  | .int i, .int j => some (decide (i ≤ j))
  | .str s, .str t => some (strLe s t)
  | _, _ => none
def inP (x : PV) : PV → Option Bool
  | .lst xs => pvin x xs
  | .tup xs => pvinF x xs
  | .str t => match x with
    | .str [c] => some (decide (c ∈ t))
    | _ => none
  | .dic t ks _ => (keyOf t x).map fun k => ks.any (fun z => decide (z = k))
  | _ => none
def isP (x : PV) : PV → Option Bool
  | .non => some x.isNon
  | .bl b => match x with
    | .bl c => some (c == b)
    | _ => none
  | _ => none
def cmpop (o : COp) (a b : PV) : Option Bool := match o with
  | .eq => pveq a b
  | .ne => (pveq a b).map (!·)
  | .lt => ltP a b
  | .le => leP a b
  | .gt => ltP b a
  | .ge => leP b a
  | .isin => inP a b
  | .notin => (inP a b).map (!·)
  | .is_ => isP a b
  | .isnot => (isP a b).map (!·)

/-- truth -/
def truth : PV → Option Bool
  | .non => some false
  | .bl b => some b
  | .int i => some (i != 0)
  | .str s => some (!s.isEmpty)
  | .tup s => some (!s.isEmpty)
  | .lst s => some (!s.isEmpty)
  | .dic false ks _ => some (!ks.isEmpty)
  | _ => none

def boolsOf : List PV → Option (List Bool)
  | [] => some []
  | .bl b :: r => (boolsOf r).map (b :: ·)
  | _ => none
def intsOf : List PV → Option (List Int)
  | [] => some []
  | .int b :: r => (intsOf r).map (b :: ·)
  | _ => none
def strsOf : List PV → Option (List (List Nat))
  | [] => some []
  | .str b :: r => (strsOf r).map (b :: ·)
  | _ => none
mutual
/-- the order of numbers, texts and tuples of these -/
def plt : PV → PV → Bool
  | .int i, .int j => decide (i < j)
  | .str s, .str t => decide (s < t)
  | .tup xs, .tup ys => pltA xs ys
  | _, _ => false
def pltA : List PV → List PV → Bool
  | [], [] => false
  | [], _ :: _ => true
  | _ :: _, [] => false
  | x :: xs, y :: ys => if PV.beq x y then pltA xs ys else plt x y
end
mutual
def sameK : PV → PV → Bool
  | .int _, .int _ => true
  | .str _, .str _ => true
  | .tup xs, .tup ys => sameKA xs ys
  | _, _ => false
def sameKA : List PV → List PV → Bool
  | [], _ => true
  | _ :: _, [] => true
  | x :: xs, y :: ys => sameK x y && sameKA xs ys
end
def isTupNE : PV → Bool
  | .tup (_ :: _) => true
  | _ => false
def notTup : PV → Bool
  | .tup _ => false
  | _ => true
def alikeP (xs : List PV) : Bool := (xs.all fun x => xs.all (sameK x)) && PV.eqOkA 60 xs
def canSort (xs : List PV) : Bool := alikeP xs && (xs.all isTupNE || xs.all notTup)
def mergeF {α : Type} (le : α → α → Bool) : Nat → List α → List α → List α
  | 0, _, _ => []
  | _ + 1, [], ys => ys
  | _ + 1, xs, [] => xs
  | n + 1, x :: xs, y :: ys => if le x y then x :: mergeF le n xs (y :: ys) else y :: mergeF le n (x :: xs) ys
def msort {α : Type} (le : α → α → Bool) : Nat → List α → List α
  | 0, xs => xs
  | _ + 1, [] => []
  | _ + 1, [a] => [a]
  | n + 1, xs => mergeF le (xs.length + 1) (msort le n (xs.take ((xs.length + 1) / 2))) (msort le n (xs.drop ((xs.length + 1) / 2)))
theorem mergeF_eq {α : Type} (le : α → α → Bool) : ∀ (n : Nat) (xs ys : List α), xs.length + ys.length < n → mergeF le n xs ys = List.merge xs ys le
  | 0, _, _, h => by omega
  | n + 1, [], ys, _ => by simp [mergeF]
  | n + 1, x :: xs, [], _ => by simp [mergeF]
  | n + 1, x :: xs, y :: ys, h => by
    simp only [List.length_cons] at h
    simp only [mergeF, List.cons_merge_cons]
    rw [mergeF_eq le n xs (y :: ys) (by simp only [List.length_cons]; omega), mergeF_eq le n (x :: xs) ys (by simp only [List.length_cons]; omega)]
theorem msort_len {α : Type} (le : α → α → Bool) : ∀ (n : Nat) (xs : List α), xs.length ≤ n → msort le n xs = xs.mergeSort le
  | 0, xs, h => by
    have : xs = [] := List.length_eq_zero_iff.mp (by omega)
    subst this; simp [msort]
  | n + 1, [], _ => by simp [msort]
  | n + 1, [a], _ => by simp [msort]
  | n + 1, a :: b :: xs, h => by
    simp only [List.length_cons] at h
    rw [List.mergeSort]
    simp only [msort, List.MergeSort.Internal.splitInTwo_fst, List.MergeSort.Internal.splitInTwo_snd]
    have e1 := msort_len le n ((a :: b :: xs).take (((a :: b :: xs).length + 1) / 2)) (by simp only [List.length_take, List.length_cons]; omega)
    have e2 := msort_len le n ((a :: b :: xs).drop (((a :: b :: xs).length + 1) / 2)) (by simp only [List.length_drop, List.length_cons]; omega)
    rw [e1, e2, mergeF_eq]
    simp only [List.length_mergeSort, List.length_take, List.length_drop, List.length_cons]
    omega
def psort (xs : List PV) : List PV := msort (fun a b => !plt b a) xs.length xs
theorem psort_eq (xs : List PV) : psort xs = xs.mergeSort fun a b => !plt b a := msort_len _ _ _ (Nat.le_refl _)
def pmax : List PV → Option PV
  | [] => none
  | x :: xs => if alikeP (x :: xs) then some (xs.foldl (fun a y => if plt a y then y else a) x) else none
def pmin : List PV → Option PV
  | [] => none
  | x :: xs => if alikeP (x :: xs) then some (xs.foldl (fun a y => if plt y a then y else a) x) else none
def dedupS : List (List Nat) → List (List Nat)
  | [] => []
  | x :: xs => x :: (dedupS xs).filter (· ≠ x)
def digitsI (i : Int) : List Nat := (Str.ofString (toString i)).cps.toList
def dkInts : List DK → Option (List Int)
  | [] => some []
  | .i n :: r => (dkInts r).map (n :: ·)
  | _ => none
def pairsOf (t : Bool) : List PV → List DK → List PV → Option (List DK × List PV)
  | [], ks, vs => some (ks, vs)
  | .tup [k, v] :: r, ks, vs => match keyOf t k with
    | some k' => pairsOf t r (dputK ks k') (dputV ks vs k' v)
    | none => none
  | _, _, _ => none
def absP : PV → Option PV
  | .int i => some (.int (if i < 0 then -i else i))
  | _ => none
def allP : PV → Option PV
  | .lst xs => (boolsOf xs).map fun bs => .bl (bs.all id)
  | _ => none
def anyP : PV → Option PV
  | .lst xs => (boolsOf xs).map fun bs => .bl (bs.any id)
  | _ => none
def intP : PV → Option PV
  | .int i => some (.int i)
  | .bl b => some (.int (if b then 1 else 0))
  | _ => none
def lenP : PV → Option PV
  | .str s => some (.int s.length)
  | .lst s => some (.int s.length)
  | .tup s => some (.int s.length)
  | .scr s => some (.int s.length)
  | .dic _ ks _ => some (.int ks.length)
  | _ => none
def listP : PV → Option PV
  | .lst s => some (.lst s)
  | .tup s => some (.lst s)
  | _ => none
def tupleP : PV → Option PV
  | .lst s => some (.tup s)
  | .tup s => some (.tup s)
  | _ => none
def sumP : PV → Option PV
  | .lst xs => (intsOf xs).map fun ns => .int ns.sum
  | _ => none
def maxP : PV → Option PV
  | .lst xs => pmax xs
  | _ => none
def minP : PV → Option PV
  | .lst xs => pmin xs
  | _ => none
def sortedP : PV → Option PV
  | .lst xs => if canSort xs then some (.lst (psort xs)) else none
  | .tup xs => if canSort xs then some (.lst (psort xs)) else none
  | _ => none
def strP : PV → Option PV
  | .int i => if i.natAbs < 2 ^ 60 then some (.str (digitsI i)) else none
  | _ => none
def dictP : PV → Option PV
  | .lst xs => (pairsOf false xs [] []).map fun z => .dic false z.1 z.2
  | _ => none
def b1 (f : B1) (x : PV) : Option PV := match f with
  | .abs => absP x
  | .all => allP x
  | .any => anyP x
  | .int => intP x
  | .len => lenP x
  | .list => listP x
  | .tuple => tupleP x
  | .sum => sumP x
  | .max => maxP x
  | .min => minP x
  | .sorted => sortedP x
  | _ => none
def b2 (f : B2) (x y : PV) : Option PV := match x, y with
  | .int i, .int j => some (.int (match f with
    | .max2 => if j > i then j else i
    | .min2 => if j < i then j else i))
  | _, _ => none

def place (n : Nat) (i : Int) : Option Nat := if 0 ≤ i then (if i < n then some i.toNat else none) else if -(n : Int) ≤ i then some (i + n).toNat else none
def at_ {α : Type} (xs : List α) (i : Int) : Option α := (place xs.length i).bind fun j => xs[j]?
def index : PV → PV → Option PV
  | .lst xs, .int i => at_ xs i
  | .tup xs, .int i => at_ xs i
  | .str s, .int i => (at_ s i).map fun c => .str [c]
  | .dic t ks vs, x => (keyOf t x).bind (dget ks vs)
  | _, _ => none
def clip (n d : Nat) : Option Int → Nat
  | none => d
  | some v => if v < 0 then (v + (n : Int)).toNat else min v.toNat n
def cut {α : Type} (xs : List α) (lo hi : Option Int) : List α := (xs.drop (clip xs.length 0 lo)).take (clip xs.length xs.length hi - clip xs.length 0 lo)
def slice : PV → Option Int → Option Int → Option PV
  | .lst xs, lo, hi => some (.lst (cut xs lo hi))
  | .scr xs, lo, hi => some (.lst (cut xs lo hi))
  | .tup xs, lo, hi => some (.tup (cut xs lo hi))
  | .str xs, lo, hi => some (.str (cut xs lo hi))
  | _, _, _ => none
def rev : PV → Option PV
  | .lst xs => some (.lst xs.reverse)
  | _ => none
def isTy : TyN → PV → Bool
  | .int, .int _ | .int, .bl _ => true
  | .bool, .bl _ => true
  | .str, .str _ => true
  | .tuple, .tup _ => true
  | .list, .lst _ => true
  | .list, .scr _ => true
  | .dict, .dic _ _ _ => true
  | .seq, .tup _ | .seq, .lst _ | .seq, .scr _ => true
  | _, _ => false
def isTyO (t : TyN) : PV → Option PV
  | .fn _ => none
  | x => some (.bl (isTy t x))
def joinS (sep : List Nat) : List (List Nat) → List Nat
  | [] => []
  | [x] => x
  | x :: xs => x ++ sep ++ joinS sep xs
/-- parted by one sign -/
def splitC (c : Nat) : List Nat → List (List Nat)
  | [] => [[]]
  | x :: xs => if x = c then [] :: splitC c xs else match splitC c xs with
    | y :: ys => (x :: y) :: ys
    | [] => [[x]]
def findIx (x : PV) : List PV → Nat → Option Nat
  | [], _ => none
  | y :: ys, n => if PV.beq y x then some n else findIx x ys (n + 1)
def findSub (a : List Nat) : List Nat → Nat → Option Nat
  | [], n => if a.isEmpty then some n else none
  | y :: ys, n => if isPre a (y :: ys) then some n else findSub a ys (n + 1)
def m1 : M1 → PV → PV → Option PV
  | .join, .str s, .lst xs => (strsOf xs).bind fun ss => if (joinS s ss).length ≤ big then some (.str (joinS s ss)) else none
  | .split, .str s, .str [c] => some (.lst ((splitC c s).map .str))
  | .index, .lst xs, x => if PV.eqOk 64 x && PV.eqOkA 63 xs then (findIx x xs 0).map fun n => .int n else none
  | .index, .str s, .str t => (findSub t s 0).map fun n => .int n
  | .count, .lst xs, x => if PV.eqOk 64 x && PV.eqOkA 63 xs then some (.int (xs.countP fun z => PV.beq z x)) else none
  | .count, .tup xs, x => if PV.eqOk 64 x && PV.eqOkA 63 xs then some (.int (xs.countP fun z => PV.beq z x)) else none
  | .get, .dic t ks vs, x => (keyOf t x).map fun k => (dget ks vs k).getD .non
  | _, _, _ => none
def m2 : M2 → PV → PV → PV → Option PV
  | .get, .dic t ks vs, x, y => (keyOf t x).map fun k => (dget ks vs k).getD y
  | _, _, _, _ => none

/-- what a for walks -/
def itemsOf : PV → Option (List PV)
  | .lst xs | .tup xs | .scr xs => some xs
  | .str s => some (s.map fun c => .str [c])
  | _ => none
/-- what enumerate, zip walk -/
def itemsL : PV → Option (List PV)
  | .lst xs | .scr xs => some xs
  | _ => none
def rngL (a : Int) (n : Nat) (c : Int) : List PV := (List.range n).map fun (i : Nat) => .int (a + i * c)
def small62 (i : Int) : Bool := decide (-(2 ^ 62) ≤ i) && decide (i < 2 ^ 62)
def rngN (i j c : Int) : Nat := if 0 < c then ((j - i + c - 1) / c).toNat else ((i - j + (-c) - 1) / (-c)).toNat
def enumL (n : Int) : List PV → List PV
  | [] => []
  | x :: xs => .tup [.int n, x] :: enumL (n + 1) xs
def zipL : List PV → List PV → List PV
  | x :: xs, y :: ys => .tup [x, y] :: zipL xs ys
  | _, _ => []
def zipP (x y : PV) : Option (List PV) := match itemsL x, itemsL y with
  | some xs, some ys => some (zipL xs ys)
  | _, _ => match x, y with
    | .tup xs, .tup ys => some (zipL xs ys)
    | _, _ => none

def Slot.rd : Slot → Option PV
  | .val p => some p
  | .own xs => some (.lst xs)
  | .ownD t ks vs => some (.dic t ks vs)
  | .emp => none
def rd (i : Nat) (ρ : Sl) : R PV := match ρ[i]? with
  | some (.val p) => .ok p ρ
  | some (.own xs) => .ok (.lst xs) (ρ.set i (.val (.lst xs)))
  | some (.ownD t ks vs) => .ok (.dic t ks vs) (ρ.set i (.val (.dic t ks vs)))
  | _ => .stuck
/-- what a name holds, as it stands -/
def peek (i : Nat) (ρ : Sl) : Option PV := ρ[i]?.bind Slot.rd
def wipeS (ρ : Sl) : List Nat → Sl
  | [] => ρ
  | v :: vs => (wipeS ρ vs).set v .emp
def unwipe (ρ' ρ : Sl) : List Nat → Sl
  | [] => ρ'
  | v :: vs => (unwipe ρ' ρ vs).set v (ρ[v]?.getD .emp)
def assignT : Tg → PV → Sl → Option Sl
  | .nm i, v, ρ => if i < ρ.length then some (ρ.set i (.val v)) else none
  | .tp l, .tup xs, ρ => assignT l (.tup xs) ρ
  | .nil, .tup [], ρ => some ρ
  | .cons a b, .tup (x :: xs), ρ => (assignT a x ρ).bind (assignT b (.tup xs))
  | _, _, _ => none
def compLoop (vs : List Nat) (tg : PV → Sl → Option Sl) (c : Sl → R Bool) (e : Sl → R PV) : List PV → Sl → R (List PV)
  | [], ρ => .ok [] ρ
  | x :: xs, ρ => match tg x ρ with
    | none => .stuck
    | some ρ1 => match c ρ1 with
      | .ok true ρ2 => (match e ρ2 with
        | .ok y ρ3 => (compLoop vs tg c e xs (wipeS ρ3 vs)).bind fun ys ρ4 => .ok (y :: ys) ρ4
        | _ => .stuck)
      | .ok false ρ2 => compLoop vs tg c e xs (wipeS ρ2 vs)
      | _ => .stuck
def dcompLoop (t : Bool) (vs : List Nat) (tg : PV → Sl → Option Sl) (c : Sl → R Bool) (kx vx : Sl → R PV) : List PV → Sl → List DK → List PV → R (List DK × List PV)
  | [], ρ, ks, ws => .ok (ks, ws) ρ
  | x :: xs, ρ, ks, ws => match tg x ρ with
    | none => .stuck
    | some ρ1 => match c ρ1 with
      | .ok true ρ2 => (match kx ρ2 with
        | .ok k ρ3 => (match vx ρ3 with
          | .ok y ρ4 => (match keyOf t k with
            | some k' => dcompLoop t vs tg c kx vx xs (wipeS ρ4 vs) (dputK ks k') (dputV ks ws k' y)
            | none => .stuck)
          | _ => .stuck)
        | _ => .stuck)
      | .ok false ρ2 => dcompLoop t vs tg c kx vx xs (wipeS ρ2 vs) ks ws
      | _ => .stuck
def optInt : PV → Option (Option Int)
  | .int i => some (some i)
  | _ => none

/-- what a piece means: its value, as a test, walked -/
structure SM where
  v : Sl → R PV
  t : Sl → R Bool
  i : Sl → R (List PV)
def SM.of (v : Sl → R PV) : SM := ⟨v, fun ρ => (v ρ).bind fun x ρ => .of (truth x) ρ, fun ρ => (v ρ).bind fun x ρ => .of (itemsOf x) ρ⟩
def SM.ofT (t : Sl → R Bool) : SM := ⟨fun ρ => (t ρ).bind fun b ρ => .ok (.bl b) ρ, t, fun _ => .stuck⟩
def SM.ofI (i : Sl → R (List PV)) : SM := ⟨fun _ => .stuck, fun _ => .stuck, i⟩
/-- a comprehension's if -/
def cOf : PX → SM → Sl → R Bool
  | .nil, _ => fun ρ => .ok true ρ
  | _, s => s.t
/-- an end of a slice -/
def oOf : PX → SM → Sl → R (Option Int)
  | .nil, _ => fun ρ => .ok none ρ
  | _, s => fun ρ => (s.v ρ).bind fun x ρ => .of (optInt x) ρ
section
variable (cl : Nat → Option (List PV) → List PV → Outc)
def callR (o : Outc) (ρ : Sl) : R PV := match o with
  | .val v _ => .ok v ρ
  | .exc c vs _ => .exc c vs ρ
  | .stuck => .stuck
def callP (f : Nat) (y : PV) (ρ : Sl) : R PV := match y with
  | .tup ys => callR (cl f none ys) ρ
  | _ => .stuck
def callPV (i : Nat) (y : PV) (ρ : Sl) : R PV := match y, peek i ρ with
  | .tup ys, some (.fn f) => callR (cl f none ys) ρ
  | _, _ => .stuck
def callPIO (f i : Nat) (y : PV) (ρ : Sl) : R PV := match y, ρ[i]? with
  | .tup ys, some (.own xs) => (match cl f (some xs) ys with
    | .val v io => .ok v (ρ.set i (.own io))
    | .exc c vs io => .exc c vs (ρ.set i (.own io))
    | .stuck => .stuck)
  | _, _ => .stuck
def consP (x y : PV) (ρ : Sl) : R PV := match y with
  | .tup ys => .ok (.tup (x :: ys)) ρ
  | _ => .stuck
def tupOk (y : PV) : Option PV := match y with
  | .tup ys => if ys.length ≤ big then some (.tup ys) else none
  | _ => none
def lstOk (y : PV) : Option PV := match y with
  | .tup ys => if ys.length ≤ big then some (.lst ys) else none
  | _ => none
def notP : PV → Option PV
  | .bl b => some (.bl (!b))
  | _ => none
def negP (x : PV) (ρ : Sl) : R PV := match x with
  | .int i => .ok (.int (-i)) ρ
  | _ => .stuck
def popP (i : Nat) (x : PV) (ρ : Sl) : R PV := match ρ[i]?, x with
  | some (.own xs), .int j => (match place xs.length j with
    | some k => .of xs[k]? (ρ.set i (.own (xs.eraseIdx k)))
    | none => .stuck)
  | _, _ => .stuck
def pop0P (i : Nat) (ρ : Sl) : R PV := match ρ[i]? with
  | some (.own xs) => .of xs[xs.length - 1]? (ρ.set i (.own xs.dropLast))
  | _ => .stuck
def compP (vs : List Nat) (tg : Tg) (c : Sl → R Bool) (e : Sl → R PV) (xs : List PV) (ρ : Sl) : R PV :=
  if xs.length ≤ big then (match compLoop vs (assignT tg) c e xs (wipeS ρ vs) with
  | .ok ys ρ' => .ok (.lst ys) (unwipe ρ' ρ vs)
  | _ => .stuck) else .stuck
def dcompP (t : Bool) (vs : List Nat) (tg : Tg) (c : Sl → R Bool) (kx vx : Sl → R PV) (xs : List PV) (ρ : Sl) : R PV :=
  if xs.length ≤ big then (match dcompLoop t vs (assignT tg) c kx vx xs (wipeS ρ vs) [] [] with
  | .ok (ks, ws) ρ' => .ok (.dic t ks ws) (unwipe ρ' ρ vs)
  | _ => .stuck) else .stuck
def rng1P (x : PV) (ρ : Sl) : R (List PV) := match x with
  | .int n => if small62 n then .ok (rngL 0 n.toNat 1) ρ else .stuck
  | _ => .stuck
def rng2P (x y : PV) (ρ : Sl) : R (List PV) := match x, y with
  | .int i, .int j => if small62 i && small62 j then .ok (rngL i (j - i).toNat 1) ρ else .stuck
  | _, _ => .stuck
def rng3P (c : Int) (x y : PV) (ρ : Sl) : R (List PV) := match x, y with
  | .int i, .int j => if small62 i && small62 j && decide (c = -1) then .ok (rngL i (i - j).toNat c) ρ else .stuck
  | _, _ => .stuck
def enum2P (x y : PV) (ρ : Sl) : R (List PV) := match y with
  | .int n => if small62 n then .of ((itemsL x).map (enumL n)) ρ else .stuck
  | _ => .stuck
def andP (b : Sl → R PV) (x : PV) (ρ : Sl) : R PV := match x with
  | .bl true => b ρ
  | .bl false => .ok (.bl false) ρ
  | _ => .stuck
def orP (b : Sl → R PV) (x : PV) (ρ : Sl) : R PV := match x with
  | .bl false => b ρ
  | .bl true => .ok (.bl true) ρ
  | _ => .stuck
def dict1P (x y : PV) (ρ : Sl) : R PV := match keyOf false x with
  | some k => .ok (.dic false [k] [y]) ρ
  | none => .stuck
def sem : PX → SM
  | .k c => .of fun ρ => .ok c ρ
  | .var i => .of (rd i)
  | .bin o a b => .of fun ρ => ((sem a).v ρ).bind fun x ρ => ((sem b).v ρ).bind fun y ρ => .of (binop o x y) ρ
  | .neg a => .of fun ρ => ((sem a).v ρ).bind negP
  | .not a => ⟨fun ρ => ((sem a).v ρ).bind fun x ρ => .of (notP x) ρ, fun ρ => ((sem a).t ρ).bind fun b ρ => .ok (!b) ρ, fun _ => .stuck⟩
  | .one a => ⟨(sem a).v, (sem a).t, fun _ => .stuck⟩
  | .and a b => ⟨fun ρ => ((sem a).v ρ).bind (andP (sem b).v), fun ρ => ((sem a).t ρ).bind fun t ρ => if t then (sem b).t ρ else .ok false ρ, fun _ => .stuck⟩
  | .or a b => ⟨fun ρ => ((sem a).v ρ).bind (orP (sem b).v), fun ρ => ((sem a).t ρ).bind fun t ρ => if t then .ok true ρ else (sem b).t ρ, fun _ => .stuck⟩
  | .ife c a b => ⟨fun ρ => ((sem c).t ρ).bind fun t ρ => if t then (sem a).v ρ else (sem b).v ρ, fun ρ => ((sem c).t ρ).bind fun t ρ => if t then (sem a).t ρ else (sem b).t ρ, fun ρ => (((sem c).t ρ).bind fun t ρ => if t then (sem a).v ρ else (sem b).v ρ).bind fun x ρ => .of (itemsOf x) ρ⟩
  | .cmp o a b => .ofT fun ρ => ((sem a).v ρ).bind fun x ρ => ((sem b).v ρ).bind fun y ρ => .of (cmpop o x y) ρ
  | .chain o o' a b c => .ofT fun ρ => ((sem a).v ρ).bind fun x ρ => ((sem b).v ρ).bind fun y ρ => (R.of (cmpop o x y) ρ).bind fun t ρ =>
      if t then ((sem c).v ρ).bind fun z ρ => .of (cmpop o' y z) ρ else .ok false ρ
  | .nil => .of fun ρ => .ok (.tup []) ρ
  | .cons a b => .of fun ρ => ((sem a).v ρ).bind fun x ρ => ((sem b).v ρ).bind fun y ρ => consP x y ρ
  | .tup l => .of fun ρ => ((sem l).v ρ).bind fun y ρ => .of (tupOk y) ρ
  | .lst l => .of fun ρ => ((sem l).v ρ).bind fun y ρ => .of (lstOk y) ρ
  | .dict0 t => .of fun ρ => .ok (.dic t [] []) ρ
  | .dict1 a b => .of fun ρ => ((sem a).v ρ).bind fun x ρ => ((sem b).v ρ).bind fun y ρ => dict1P x y ρ
  | .ix a b => .of fun ρ => ((sem a).v ρ).bind fun x ρ => ((sem b).v ρ).bind fun y ρ => .of (index x y) ρ
  | .ixS i b => .of fun ρ => if (peek i ρ).isSome then ((sem b).v ρ).bind fun y ρ => .of ((peek i ρ).bind fun x => index x y) ρ else .stuck
  | .sl a lo hi => .of fun ρ => ((sem a).v ρ).bind fun x ρ => (oOf lo (sem lo) ρ).bind fun l ρ => (oOf hi (sem hi) ρ).bind fun h ρ => .of (slice x l h) ρ
  | .rev a => .of fun ρ => ((sem a).v ρ).bind fun x ρ => .of (rev x) ρ
  | .b1 f a => .of fun ρ => ((sem a).v ρ).bind fun x ρ => .of (b1 f x) ρ
  | .b2 f a b => .of fun ρ => ((sem a).v ρ).bind fun x ρ => ((sem b).v ρ).bind fun y ρ => .of (b2 f x y) ρ
  | .lenS i => .of fun ρ => .of ((peek i ρ).bind (b1 .len)) ρ
  | .isi a t => .of fun ρ => ((sem a).v ρ).bind fun x ρ => .of (isTyO t x) ρ
  | .m1 f a b => .of fun ρ => ((sem a).v ρ).bind fun x ρ => ((sem b).v ρ).bind fun y ρ => .of (m1 f x y) ρ
  | .m2 f a b c => .of fun ρ => ((sem a).v ρ).bind fun x ρ => ((sem b).v ρ).bind fun y ρ => ((sem c).v ρ).bind fun z ρ => .of (m2 f x y z) ρ
  | .getS i a b => .of fun ρ => if (peek i ρ).isSome then ((sem a).v ρ).bind fun x ρ => ((sem b).v ρ).bind fun y ρ => .of ((peek i ρ).bind fun d => m2 .get d x y) ρ else .stuck
  | .getS1 i a => .of fun ρ => if (peek i ρ).isSome then ((sem a).v ρ).bind fun x ρ => .of ((peek i ρ).bind fun d => m1 .get d x) ρ else .stuck
  | .inS n a i => .ofT fun ρ => ((sem a).v ρ).bind fun x ρ => .of ((peek i ρ).bind fun d => cmpop (if n then .notin else .isin) x d) ρ
  | .popS i a => .of fun ρ => if (peek i ρ).isSome then ((sem a).v ρ).bind (popP i) else .stuck
  | .pop0 i => .of (pop0P i)
  | .call f l => .of fun ρ => ((sem l).v ρ).bind (callP cl f)
  | .callF f l => .of fun ρ => ((sem l).v ρ).bind (callP cl f)
  | .callIO f i l => .of fun ρ => if (peek i ρ).isSome then ((sem l).v ρ).bind (callPIO cl f i) else .stuck
  | .callV i l => .of fun ρ => if (peek i ρ).isSome then ((sem l).v ρ).bind (callPV cl i) else .stuck
  | .comp vs tg it c e => .of fun ρ => ((sem it).i ρ).bind (compP vs tg (cOf c (sem c)) (sem e).v)
  | .dcomp t vs tg it c kx vx => .of fun ρ => ((sem it).i ρ).bind (dcompP t vs tg (cOf c (sem c)) (sem kx).v (sem vx).v)
  | .rng1 a => .ofI fun ρ => ((sem a).v ρ).bind rng1P
  | .rng2 a b => .ofI fun ρ => ((sem a).v ρ).bind fun x ρ => ((sem b).v ρ).bind fun y ρ => rng2P x y ρ
  | .rng3 a b c => .ofI fun ρ => ((sem a).v ρ).bind fun x ρ => ((sem b).v ρ).bind fun y ρ => rng3P c x y ρ
  | .enum a => .ofI fun ρ => ((sem a).v ρ).bind fun x ρ => .of ((itemsL x).map (enumL 0)) ρ
  | .enum2 a b => .ofI fun ρ => ((sem a).v ρ).bind fun x ρ => ((sem b).v ρ).bind fun y ρ => enum2P x y ρ
  | .zip a b => .ofI fun ρ => ((sem a).v ρ).bind fun x ρ => ((sem b).v ρ).bind fun y ρ => .of (zipP x y) ρ
abbrev den (p : PX) : Sl → R PV := (sem cl p).v
abbrev denT (p : PX) : Sl → R Bool := (sem cl p).t
abbrev denI (p : PX) : Sl → R (List PV) := (sem cl p).i
end

/-! ### statements -/
inductive Fl where
  | nx | ret (v : PV) | brk
inductive PS' where
  | skip | seq (a b : PS') | set (tg : Tg) (e : PX) | own (i : Nat) (e : PX)
  | par2 (f1 : Bool) (i : Nat) (a : PX) (f2 : Bool) (j : Nat) (b : PX) | par3 (i : Nat) (a : PX) (j : Nat) (b : PX) (l : Nat) (c : PX)
  | setIx (i : Nat) (k e : PX) | aug (i : Nat) (o : BOp) (e : PX)
  | app (i : Nat) (e : PX) | ext (i : Nat) (e : PX) | upd (i : Nat) (e : PX) | expr (e : PX)
  | ite (c : PX) (a b : PS') | for_ (tg : Tg) (it : PX) (b : PS') | while_ (c : PX) (b : PS')
  | ret (e : PX) | retN | brk | raise (c : Nat) | raise1 (c : Nat) (e : PX)
def forLoop (tg : PV → Sl → Option Sl) (b : Sl → R Fl) : List PV → Sl → R Fl
  | [], ρ => .ok .nx ρ
  | x :: xs, ρ => match tg x ρ with
    | none => .stuck
    | some ρ1 => (b ρ1).bind fun f ρ2 => match f with
      | .nx => forLoop tg b xs ρ2
      | .brk => .ok .nx ρ2
      | .ret v => .ok (.ret v) ρ2
def whileLoop (c : Sl → R Bool) (b : Sl → R Fl) : Nat → Sl → R Fl
  | 0, _ => .stuck
  | n + 1, ρ => (c ρ).bind fun t ρ1 => if t then (b ρ1).bind fun f ρ2 => match f with
      | .nx => whileLoop c b n ρ2
      | .brk => .ok .nx ρ2
      | .ret v => .ok (.ret v) ρ2
    else .ok .nx ρ1
def ownOf : PV → Option Slot
  | .lst xs => some (.own xs)
  | .dic t ks vs => some (.ownD t ks vs)
  | _ => none
def putS (i : Nat) (s : Option Slot) (ρ : Sl) : R Fl := match s with
  | some s => if i < ρ.length then .ok .nx (ρ.set i s) else .stuck
  | none => .stuck
def sl2 (f : Bool) (v : PV) : Option Slot := if f then ownOf v else some (.val v)
def setIxP (i : Nat) (v k : PV) (ρ : Sl) : R Fl := match ρ[i]?, k with
  | some (.own xs), .int n => (match place xs.length n with
    | some j => .ok .nx (ρ.set i (.own (xs.set j v)))
    | none => .stuck)
  | some (.ownD t ks vs), k => (match keyOf t k with
    | some k' => if ks.length < big then .ok .nx (ρ.set i (.ownD t (dputK ks k') (dputV ks vs k' v))) else .stuck
    | none => .stuck)
  | _, _ => .stuck
def isOwnL (i : Nat) (ρ : Sl) : Bool := match ρ[i]? with
  | some (.own _) => true
  | _ => false
def isOwnD (i : Nat) (ρ : Sl) : Bool := match ρ[i]? with
  | some (.ownD _ _ _) => true
  | _ => false
def appP (i : Nat) (v : PV) (ρ : Sl) : R Fl := match ρ[i]? with
  | some (.own xs) => if xs.length < big then .ok .nx (ρ.set i (.own (xs ++ [v]))) else .stuck
  | _ => .stuck
def extP (i : Nat) (v : PV) (ρ : Sl) : R Fl := match ρ[i]?, v with
  | some (.own xs), .lst ys => if xs.length + ys.length ≤ big then .ok .nx (ρ.set i (.own (xs ++ ys))) else .stuck
  | _, _ => .stuck
def updD (ks : List DK) (vs : List PV) : List DK → List PV → List DK × List PV
  | k :: r, v :: w => updD (dputK ks k) (dputV ks vs k v) r w
  | _, _ => (ks, vs)
def updP (i : Nat) (v : PV) (ρ : Sl) : R Fl := match ρ[i]?, v with
  | some (.ownD false ks vs), .dic false ks2 vs2 => if ks.length + ks2.length ≤ big then .ok .nx (ρ.set i (.ownD false (updD ks vs ks2 vs2).1 (updD ks vs ks2 vs2).2)) else .stuck
  | _, _ => .stuck
def augP (i : Nat) (o : BOp) (x y : PV) (ρ : Sl) : R Fl := match o, x, y with
  | .add, .int a, .int b => if i < ρ.length then .ok .nx (ρ.set i (.val (.int (a + b)))) else .stuck
  | .sub, .int a, .int b => if i < ρ.length then .ok .nx (ρ.set i (.val (.int (a - b)))) else .stuck
  | _, _, _ => .stuck
section
variable (cl : Nat → Option (List PV) → List PV → Outc) (fuel : Nat)
def denS : PS' → Sl → R Fl
  | .skip, ρ => .ok .nx ρ
  | .seq a b, ρ => (denS a ρ).bind fun f ρ => match f with
    | .nx => denS b ρ
    | .brk => .ok .brk ρ
    | .ret v => .ok (.ret v) ρ
  | .set tg e, ρ => (den cl e ρ).bind fun x ρ => match assignT tg x ρ with
    | some ρ' => .ok .nx ρ'
    | none => .stuck
  | .own i e, ρ => (den cl e ρ).bind fun x ρ => putS i (ownOf x) ρ
  | .par2 f1 i a f2 j b, ρ => (den cl a ρ).bind fun x ρ => (den cl b ρ).bind fun y ρ => (putS i (sl2 f1 x) ρ).bind fun _ ρ => putS j (sl2 f2 y) ρ
  | .par3 i a j b l c, ρ => (den cl a ρ).bind fun x ρ => (den cl b ρ).bind fun y ρ => (den cl c ρ).bind fun z ρ =>
      (putS i (some (.val x)) ρ).bind fun _ ρ => (putS j (some (.val y)) ρ).bind fun _ ρ => putS l (some (.val z)) ρ
  | .setIx i k e, ρ => (den cl e ρ).bind fun v ρ => if (peek i ρ).isSome then (den cl k ρ).bind fun k ρ => setIxP i v k ρ else .stuck
  | .aug i o e, ρ => match peek i ρ with
    | some x => (den cl e ρ).bind fun y ρ => augP i o x y ρ
    | none => .stuck
  | .app i e, ρ => if isOwnL i ρ then (den cl e ρ).bind (appP i) else .stuck
  | .ext i e, ρ => if isOwnL i ρ then (den cl e ρ).bind (extP i) else .stuck
  | .upd i e, ρ => if isOwnD i ρ then (den cl e ρ).bind (updP i) else .stuck
  | .expr e, ρ => (den cl e ρ).bind fun _ ρ => .ok .nx ρ
  | .ite c a b, ρ => (denT cl c ρ).bind fun t ρ => if t then denS a ρ else denS b ρ
  | .for_ tg it b, ρ => (denI cl it ρ).bind (forLoop (assignT tg) (denS b))
  | .while_ c b, ρ => whileLoop (denT cl c) (denS b) fuel ρ
  | .ret e, ρ => (den cl e ρ).bind fun x ρ => .ok (.ret x) ρ
  | .retN, ρ => .ok (.ret .non) ρ
  | .brk, ρ => .ok .brk ρ
  | .raise c, ρ => .exc c [] ρ
  | .raise1 c e, ρ => (den cl e ρ).bind fun x ρ => .exc c [x] ρ
end

/-- a def: its parameters' number, its names' number, whether the first one is a list that it changes, whether it hands back a list of its own -/
structure PFn where
  ar : Nat
  ns : Nat
  io : Bool
  fr : Bool
  body : PS'
def start (n : Nat) (io : Option (List PV)) (args : List PV) : Sl := match io with
  | none => args.map .val ++ List.replicate (n - args.length) .emp
  | some xs => .own xs :: (args.map .val ++ List.replicate (n - 1 - args.length) .emp)
def ioOf (b : Bool) (ρ : Sl) : Option (List PV) := if b then (match ρ[(0 : Nat)]? with | some (.own xs) => some xs | _ => none) else some []
def finish (b : Bool) : R Fl → Outc
  | .ok .nx ρ => (match ioOf b ρ with | some xs => .val .non xs | none => .stuck)
  | .ok (.ret v) ρ => (match ioOf b ρ with | some xs => .val v xs | none => .stuck)
  | .ok .brk _ => .stuck
  | .exc c vs ρ => (match ioOf b ρ with | some xs => .exc c vs xs | none => .stuck)
  | .stuck => .stuck
def fits (fn : PFn) (io : Option (List PV)) (args : List PV) : Bool := io.isSome == fn.io && decide (args.length + (if fn.io then 1 else 0) = fn.ar)
def run (tb : List PFn) (fuel : Nat) : Nat → Nat → Option (List PV) → List PV → Outc
  | 0, _, _, _ => .stuck
  | n + 1, f, io, args => match tb[f]? with
    | none => .stuck
    | some fn => if fits fn io args then finish fn.io (denS (run tb fuel n) fuel fn.body (start fn.ns io args)) else .stuck
end Pu
end

section
set_option Elab.async false
set_option linter.all false
set_option maxRecDepth 100000
namespace Pu
open PySem PySem.Spec PyProof.Rows L2

def Slot.isOwn : Slot → Bool
  | .own _ | .ownD _ _ _ => true
  | _ => false
def RelS (G : Th) (P F : Addr → Prop) (H : Hp) : Slot → Option (Option V) → Prop
  | .emp, _ => True
  | .val p, o => ∃ x, o = some (some x) ∧ Rp G F H p x
  | .own xs, o => ∃ a vs, o = some (some (.ref a)) ∧ ¬ F a ∧ ¬ P a ∧ H a = some (.lst vs) ∧ vs.length ≤ sizeLine ∧ RpA G F H xs vs
  | .ownD false ks ps, o => ∃ (a : Addr) (ms : List Key) (vs : List V), o = some (some (.ref a)) ∧ ¬ F a ∧ ¬ P a ∧ H a = some (.dK (ms.zip vs)) ∧ ms.length = vs.length ∧ vs.length ≤ sizeLine ∧ ks.map dkK = ms.map some ∧ RpA G F H ps vs
  | .ownD true ks ps, o => ∃ (a : Addr) (ms : List (List Key)) (vs : List V), o = some (some (.ref a)) ∧ ¬ F a ∧ ¬ P a ∧ H a = some (.dT (ms.zip vs)) ∧ ms.length = vs.length ∧ vs.length ≤ sizeLine ∧ ks.map dkT = ms.map some ∧ RpA G F H ps vs
def ownB (ρ : Sl) (i : Nat) : Prop := ∃ s : Slot, ρ[i]? = some s ∧ s.isOwn = true
def OwnA (ρ : Sl) (σ : L2.St) (a : Addr) : Prop := ∃ i, ownB ρ i ∧ σ[i]? = some (some (.ref a))
structure Rel (G : Th) (P F : Addr → Prop) (io : Option Addr) (ρ : Sl) (σ : L2.St) (H : Hp) : Prop where
  pre : Pre G P F H
  len : ρ.length = σ.length
  at_ : ∀ (i : Nat) (s : Slot), ρ[i]? = some s → RelS G P F H s (σ[i]?)
  apart : ∀ (i j : Nat) (a : Addr), ownB ρ i → ownB ρ j → σ[i]? = some (some (.ref a)) → σ[j]? = some (some (.ref a)) → i = j
  pin : ∀ a, io = some a → σ[(0 : Nat)]? = some (some (.ref a))

section
variable {G : Th} {P P' F F' : Addr → Prop} {H H' : Hp} {io : Option Addr} {ρ ρ' : Sl} {σ : L2.St}
theorem Ext.sub (e : Ext G P F H F' H') (h : ∀ a, P' a → P a) : Ext G P' F H F' H' :=
  ⟨e.fz, fun a o q => e.keep a o (q.imp id (h a)), fun a q => e.prot a (h a q), e.there, e.tabs, e.dom⟩
theorem RelS.owned {s : Slot} {o : Option (Option V)} (r : RelS G P F H s o) (h : s.isOwn = true) : ∃ a u, o = some (some (.ref a)) ∧ ¬ F a ∧ ¬ P a ∧ H a = some u ∧ ∀ ps, u ≠ .tbl ps := by
  cases s with
  | emp => cases h
  | val p => cases h
  | own xs => obtain ⟨a, vs, e, f, p, hh, _⟩ := r; exact ⟨a, _, e, f, p, hh, fun _ z => nomatch z⟩
  | ownD t ks ps =>
    cases t with
    | false => obtain ⟨a, ms, vs, e, f, p, hh, _⟩ := r; exact ⟨a, _, e, f, p, hh, fun _ z => nomatch z⟩
    | true => obtain ⟨a, ms, vs, e, f, p, hh, _⟩ := r; exact ⟨a, _, e, f, p, hh, fun _ z => nomatch z⟩
theorem Rel.ownA (r : Rel G P F io ρ σ H) {a : Addr} (h : OwnA ρ σ a) : ¬ F a ∧ ¬ P a ∧ ∃ u, H a = some u ∧ ∀ ps, u ≠ .tbl ps := by
  obtain ⟨i, ⟨s, e1, e2⟩, e3⟩ := h
  obtain ⟨b, u, e4, f, p, hh, n⟩ := (r.at_ i s e1).owned e2
  rw [e3] at e4; cases e4
  exact ⟨f, p, u, hh, n⟩
theorem RelS.step {s : Slot} {o : Option (Option V)} (r : RelS G P F H s o) (e : Ext G P F H F' H') (ho : s.isOwn = true → ∀ a, o = some (some (.ref a)) → H' a = H a ∧ ¬ F' a) : RelS G P F' H' s o := by
  cases s with
  | emp => trivial
  | val p => obtain ⟨x, e1, e2⟩ := r; exact ⟨x, e1, e.rp e2⟩
  | own xs =>
    obtain ⟨a, vs, e1, f, p, hh, z, ra⟩ := r
    obtain ⟨k1, k2⟩ := ho rfl a e1
    exact ⟨a, vs, e1, k2, p, k1.trans hh, z, e.rpA ra⟩
  | ownD t ks ps =>
    cases t with
    | false =>
      obtain ⟨a, ms, vs, e1, f, p, hh, z, z2, hk, ra⟩ := r
      obtain ⟨k1, k2⟩ := ho rfl a e1
      exact ⟨a, ms, vs, e1, k2, p, k1.trans hh, z, z2, hk, e.rpA ra⟩
    | true =>
      obtain ⟨a, ms, vs, e1, f, p, hh, z, z2, hk, ra⟩ := r
      obtain ⟨k1, k2⟩ := ho rfl a e1
      exact ⟨a, ms, vs, e1, k2, p, k1.trans hh, z, z2, hk, e.rpA ra⟩
/-- the names' own things are left alone -/
theorem Rel.step (r : Rel G P F io ρ σ H) (e : Ext G (fun a => P a ∨ OwnA ρ σ a) F H F' H') : Rel G P F' io ρ σ H' := by
  have e' : Ext G P F H F' H' := e.sub fun a h => .inl h
  refine ⟨e'.pre r.pre, r.len, fun i s h => (r.at_ i s h).step e' fun ho a q => ?_, r.apart, r.pin⟩
  have oa : OwnA ρ σ a := ⟨i, ⟨s, h, ho⟩, q⟩
  obtain ⟨_, _, u, hu, n⟩ := r.ownA oa
  exact ⟨(e.keep a u (.inr (.inr oa)) hu n).trans hu.symm, e.prot a (.inr oa)⟩
theorem Rel.pre' (r : Rel G P F io ρ σ H) : Pre G (fun a => P a ∨ OwnA ρ σ a) F H :=
  ⟨fun a h => h.elim (r.pre.pd a) fun q => let ⟨_, _, u, hu, n⟩ := r.ownA q; ⟨u, hu, n⟩, fun a h => h.elim (r.pre.pf a) fun q => (r.ownA q).1, r.pre.tabs, r.pre.fd⟩
end

/-- an exception's own dict -/
def ExcR (G : Th) (F : Addr → Prop) (H : Hp) (c : Nat) (vs : List PV) (d : Option Addr) : Prop :=
  (vs = [] ∧ d = none) ∨ ∃ p v a, vs = [p] ∧ d = some a ∧ H a = some (.xd [(G.fld c, v)]) ∧ Rp G F H p v

section
variable (G : Th) (P : Addr → Prop) (io : Option Addr) (W : WX) {α β : Type}
/-- what follows from what running gives -/
def Fn (A : Sl → (Addr → Prop) → Hp → α → β → Prop) (F : Addr → Prop) (σ : L2.St) (H : Hp) : R α → (β → Hp → Prop) → Prop
  | .ok a ρ', Q => ∀ F' H' b, Ext G P F H F' H' → Rel G P F' io ρ' σ H' → A ρ' F' H' a b → Q b H'
  | .exc c vs ρ', _ => ∀ F' H' d, Ext G P F H F' H' → Rel G P F' io ρ' σ H' → ExcR G F' H' c vs d → W (.ref (G.ca c)) d σ H'
  | .stuck, _ => False
end
abbrev AV (G : Th) : Sl → (Addr → Prop) → Hp → PV → V → Prop := fun _ F H p x => Rp G F H p x
abbrev AE {α : Type} : Sl → (Addr → Prop) → Hp → α → α → Prop := fun _ _ _ a b => a = b
def isObjV : PV → Bool
  | .lst _ | .dic _ _ _ => true
  | _ => false
/-- a value; a list, a dict just made -/
def AF (G : Th) (σ : L2.St) (H₀ : Hp) : Sl → (Addr → Prop) → Hp → PV → V → Prop := fun ρ F H p x =>
  (isObjV p = false ∧ Rp G F H p x) ∨ ∃ b, x = .ref b ∧ H₀ b = none ∧ ¬ F b ∧ ¬ OwnA ρ σ b ∧
    ((∃ us ws, p = .lst us ∧ H b = some (.lst ws) ∧ ws.length ≤ sizeLine ∧ RpA G F H us ws) ∨
     (∃ ks us, ∃ (ms : List Key) (ws : List V), p = .dic false ks us ∧ H b = some (.dK (ms.zip ws)) ∧ ms.length = ws.length ∧ ws.length ≤ sizeLine ∧ ks.map dkK = ms.map some ∧ RpA G F H us ws) ∨
     (∃ ks us, ∃ (ms : List (List Key)) (ws : List V), p = .dic true ks us ∧ H b = some (.dT (ms.zip ws)) ∧ ms.length = ws.length ∧ ws.length ≤ sizeLine ∧ ks.map dkT = ms.map some ∧ RpA G F H us ws))
section
variable {G : Th} {P : Addr → Prop} {io : Option Addr} {W : WX} {α β γ δ : Type} {A : Sl → (Addr → Prop) → Hp → α → β → Prop} {B : Sl → (Addr → Prop) → Hp → γ → δ → Prop} {F F' : Addr → Prop} {ρ ρ' : Sl} {σ : L2.St} {H H' : Hp} {r : R α}
theorem Fn.from_ {Q : β → Hp → Prop} (e : Ext G P F H F' H') (h : Fn G P io W A F σ H r Q) : Fn G P io W A F' σ H' r Q := by
  cases r with
  | ok a ρ' => exact fun F2 H2 b e2 r2 q => h F2 H2 b (e.trans e2) r2 q
  | exc c vs ρ' => exact fun F2 H2 d e2 r2 q => h F2 H2 d (e.trans e2) r2 q
  | stuck => exact h
theorem Fn.mono {Q Q' : β → Hp → Prop} (h : Fn G P io W A F σ H r Q) (k : ∀ b H', Q b H' → Q' b H') : Fn G P io W A F σ H r Q' := by
  cases r with
  | ok a ρ' => exact fun F2 H2 b e2 r2 q => k _ _ (h F2 H2 b e2 r2 q)
  | exc c vs ρ' => exact h
  | stuck => exact h
/-- one after another -/
theorem Fn.bind {f : α → Sl → R γ} {Q : δ → Hp → Prop} (h : Fn G P io W B F σ H (r.bind f) Q) :
    Fn G P io W A F σ H r (fun b H1 => ∃ F1 a ρ1, Ext G P F H F1 H1 ∧ Rel G P F1 io ρ1 σ H1 ∧ A ρ1 F1 H1 a b ∧ Fn G P io W B F1 σ H1 (f a ρ1) Q) := by
  cases r with
  | ok a ρ' => exact fun F' H' b e rel q => ⟨F', a, ρ', e, rel, q, Fn.from_ e h⟩
  | exc c vs ρ' => exact h
  | stuck => exact h
theorem Fn.of {o : Option α} {Q : β → Hp → Prop} (h : Fn G P io W A F σ H (R.of o ρ) Q) : ∃ a, o = some a ∧ ∀ F' H' b, Ext G P F H F' H' → Rel G P F' io ρ σ H' → A ρ F' H' a b → Q b H' := by
  cases o with
  | none => exact h.elim
  | some a => exact ⟨a, rfl, h⟩
end
theorem pe_imp {X : Cx} {e : Expr} {t t' : TE} (h : PE X e t) (k : ∀ σ H Q, t' σ H Q → t σ H Q) : PE X e t' := ⟨fun pins s σ H Q I q => h.run pins s σ H Q I (k σ H Q q)⟩
theorem pt_imp {X : Cx} {e : Expr} {t t' : TT} (h : PT X e t) (k : ∀ σ H Q, t' σ H Q → t σ H Q) : PT X e t' := ⟨fun pins s σ H Q I q => h.run pins s σ H Q I (k σ H Q q)⟩
theorem pa_imp {X : Cx} {e : List Expr} {t t' : TA} (h : PA X e t) (k : ∀ σ H Q, t' σ H Q → t σ H Q) : PA X e t' := ⟨fun pos pins s σ H Q I q => h.run pos pins s σ H Q I (k σ H Q q)⟩
theorem po_imp {X : Cx} {e : Option Expr} {t t' : TO} (h : PO X e t) (k : ∀ σ H Q, t' σ H Q → t σ H Q) : PO X e t' := ⟨fun pins s σ H Q I q => h.run pins s σ H Q I (k σ H Q q)⟩
theorem pi_imp {X : Cx} {tg e : Expr} {t t' : TI} (h : PI X tg e t) (k : ∀ σ H Q, t' σ H Q → t σ H Q) : PI X tg e t' := ⟨fun pins s σ H Q I q => h.run pins s σ H Q I (k σ H Q q)⟩
theorem ps_imp {X : Cx} {e : Stmt} {t t' : TS} (h : PS X e t) (k : ∀ D σ H, t' D σ H → t D σ H) : PS X e t' := ⟨fun pins s σ H D I q => h.run pins s σ H D I (k D σ H q)⟩
theorem pss_imp {X : Cx} {e : List Stmt} {t t' : TS} (h : PSs X e t) (k : ∀ D σ H, t' D σ H → t D σ H) : PSs X e t' := ⟨fun pins s σ H D I q => h.run pins s σ H D I (k D σ H q)⟩
theorem pg_imp {X : Cx} {e : Expr} {t t' : TG} (h : PG X e t) (k : ∀ v σ H Q, t' v σ H Q → t v σ H Q) : PG X e t' := ⟨fun pins s σ H v u Q I r q => h.run pins s σ H v u Q I r (k v σ H Q q)⟩
theorem pts_imp {X : Cx} {e : List Expr} {t t' : TT} (h : PTs X e t) (k : ∀ σ H Q, t' σ H Q → t σ H Q) : PTs X e t' := ⟨fun pins s σ H Q I q => h.run pins s σ H Q I (k σ H Q q)⟩

section
variable (G : Th) (W : WX) (cl : Nat → Option (List PV) → List PV → Outc) (io : Option Addr)
def tE (p : PX) : TE := fun σ H Q => ∃ P F ρ, Rel G P F io ρ σ H ∧ Fn G P io W (AV G) F σ H (den cl p ρ) Q
def tF (p : PX) : TE := fun σ H Q => ∃ P F ρ, Rel G P F io ρ σ H ∧ Fn G P io W (AF G σ H) F σ H (den cl p ρ) Q
def tT (p : PX) : TT := fun σ H Q => ∃ P F ρ, Rel G P F io ρ σ H ∧ Fn G P io W AE F σ H (denT cl p ρ) Q
def tC (p : PX) : TT := fun σ H Q => ∃ P F ρ, Rel G P F io ρ σ H ∧ Fn G P io W AE F σ H (cOf p (sem cl p) ρ) Q
def tO (p : PX) : TO := fun σ H Q => ∃ P F ρ, Rel G P F io ρ σ H ∧ Fn G P io W AE F σ H (oOf p (sem cl p) ρ) Q
/-- an argument list -/
def AA : Sl → (Addr → Prop) → Hp → PV → List V → Prop := fun _ F H p vs => ∃ ps, p = .tup ps ∧ RpA G F H ps vs
def tA (p : PX) : TA := fun σ H Q => ∃ P F ρ, Rel G P F io ρ σ H ∧ Fn G P io W (AA G) F σ H (den cl p ρ) Q
/-- J walks these, while what stays stays -/
def Wk (P F : Addr → Prop) (H : Hp) (J : It) (xs : List PV) : Prop := ∀ F1 H1, Ext G P F H F1 H1 →
  (∀ i, i < xs.length → J.go i H1) ∧ J.stop xs.length H1 ∧ ∀ i x H2, i < xs.length → J.yld i H1 x H2 → ∃ F2 p, Ext G P F1 H1 F2 H2 ∧ (∀ b, H1 b ≠ none → H2 b = H1 b ∧ (F2 b → F1 b)) ∧ xs[i]? = some p ∧ Rp G F2 H2 p x
def AI (P : Addr → Prop) : Sl → (Addr → Prop) → Hp → List PV → It → Prop := fun _ F H xs J => Wk G P F H J xs
def tI (p : PX) : TI := fun σ H Q => ∃ P F ρ, Rel G P F io ρ σ H ∧ Fn G P io W (AI G P) F σ H (denI cl p ρ) Q
end

section
variable {G : Th} {W : WX} {cl : Nat → Option (List PV) → List PV → Outc} {P F F' : Addr → Prop} {io : Option Addr} {ρ ρ' : Sl} {σ : L2.St} {H H' : Hp}
/-- something made is told of, as what stays -/
theorem AF.freeze {p : PV} {x : V} {H₀ : Hp} {F₀ : Addr → Prop} (e : Ext G P F₀ H₀ F H) (pr : Pre G P F₀ H₀) (r : Rel G P F io ρ σ H) (a : AF G σ H₀ ρ F H p x) :
    ∃ F', Ext G P F₀ H₀ F' H ∧ Rel G P F' io ρ σ H ∧ Rp G F' H p x := by
  rcases a with ⟨_, a⟩ | ⟨b, rfl, hn, nf, no, h⟩
  · exact ⟨F, e, r, a⟩
  have nP : ¬ P b := pr.fresh hn
  have hob : ∃ o, H b = some o := by
    rcases h with ⟨us, ws, rfl, hb, _⟩ | ⟨ks, us, ms, ws, rfl, hb, _⟩ | ⟨ks, us, ms, ws, rfl, hb, _⟩ <;> exact ⟨_, hb⟩
  have ef : Ext G (fun a => P a ∨ OwnA ρ σ a) F H (fun c => c = b ∨ F c) H := Ext.freeze r.pre' (fun z => z.elim nP no) hob
  have ef' : Ext G P F H (fun c => c = b ∨ F c) H := Ext.freeze r.pre nP hob
  refine ⟨_, e.trans ef', r.step ef, ?_⟩
  rcases h with ⟨us, ws, rfl, hb, hz, ra⟩ | ⟨ks, us, ms, ws, rfl, hb, hz, hz2, hk, ra⟩ | ⟨ks, us, ms, ws, rfl, hb, hz, hz2, hk, ra⟩
  · unfold Rp; exact ⟨b, ws, rfl, .inl rfl, hb, hz, ef'.rpA ra⟩
  · unfold Rp; exact ⟨b, ms, ws, rfl, .inl rfl, hb, hz, hz2, hk, ef'.rpA ra⟩
  · unfold Rp; exact ⟨b, ms, ws, rfl, .inl rfl, hb, hz, hz2, hk, ef'.rpA ra⟩
/-- what is made new is a value -/
theorem tF.val {X : Cx} {e : Expr} {p : PX} (h : PE X e (tF G W cl io p)) : PE X e (tE G W cl io p) := pe_imp h fun σ H Q ⟨P, F, ρ, rel, fin⟩ => by
  refine ⟨P, F, ρ, rel, ?_⟩
  cases hd : den cl p ρ with
  | ok v ρ' =>
    rw [hd] at fin
    intro F' H' x e1 r1 a1
    obtain ⟨F2, e2, r2, rp⟩ := a1.freeze e1 rel.pre r1
    exact fin F2 H' x e2 r2 rp
  | exc c vs ρ' => rw [hd] at fin; exact fin
  | stuck => rw [hd] at fin; exact fin
end
end Pu
end

section
set_option Elab.async false
set_option linter.all false
set_option maxRecDepth 100000
namespace Pu
open PySem PySem.Spec PyProof.Rows L2

theorem big_eq : big = sizeLine := by rw [sizeLine_eq]
theorem le_line {n : Nat} (h : n ≤ big) : n ≤ sizeLine := by rw [← big_eq]; exact h
/-- what an operation gives: a value -/
def Res (G : Th) (P F : Addr → Prop) (H : Hp) (v : PV) (Q : VK) : Prop := ∀ F' H' z, Ext G P F H F' H' → Rp G F' H' v z → Q z H'
/-- .. a new list, dict at b -/
def Obj_ (G : Th) (F : Addr → Prop) (H : Hp) (v : PV) (b : Addr) : Prop :=
    ((∃ us ws, v = .lst us ∧ H b = some (.lst ws) ∧ ws.length ≤ sizeLine ∧ RpA G F H us ws) ∨
     (∃ ks us, ∃ (ms : List Key) (ws : List V), v = .dic false ks us ∧ H b = some (.dK (ms.zip ws)) ∧ ms.length = ws.length ∧ ws.length ≤ sizeLine ∧ ks.map dkK = ms.map some ∧ RpA G F H us ws) ∨
     (∃ ks us, ∃ (ms : List (List Key)) (ws : List V), v = .dic true ks us ∧ H b = some (.dT (ms.zip ws)) ∧ ms.length = ws.length ∧ ws.length ≤ sizeLine ∧ ks.map dkT = ms.map some ∧ RpA G F H us ws))
def ResF (G : Th) (P F : Addr → Prop) (H : Hp) (v : PV) (Q : VK) : Prop := ∀ F' H' b, Ext G P F H F' H' → H b = none → ¬ F' b → Obj_ G F' H' v b → Q (.ref b) H'
/-- a list, a dict is new, all else a value -/
def ResB (G : Th) (P F : Addr → Prop) (H : Hp) (v : PV) (Q : VK) : Prop := if isObjV v then ResF G P F H v Q else Res G P F H v Q
section
variable {G : Th} {P F F' : Addr → Prop} {H H' : Hp} {v : PV} {Q : VK}
theorem Obj_.obj {b : Addr} (o : Obj_ G F H v b) : isObjV v = true := by
  rcases o with ⟨_, _, rfl, _⟩ | ⟨_, _, _, _, rfl, _⟩ | ⟨_, _, _, _, rfl, _⟩ <;> rfl
theorem Res.toF (p : Pre G P F H) (h : Res G P F H v Q) : ResF G P F H v Q := fun F' H' b e hb nf o => by
  have nP : ¬ P b := p.fresh hb
  have ef : Ext G P F' H' (fun c => c = b ∨ F' c) H' := Ext.freeze (e.pre p) nP (by
    rcases o with ⟨us, ws, rfl, hb, _⟩ | ⟨ks, us, ms, ws, rfl, hb, _⟩ | ⟨ks, us, ms, ws, rfl, hb, _⟩ <;> exact ⟨_, hb⟩)
  refine h _ H' _ (e.trans ef) ?_
  rcases o with ⟨us, ws, rfl, hb, hz, ra⟩ | ⟨ks, us, ms, ws, rfl, hb, hz, hz2, hk, ra⟩ | ⟨ks, us, ms, ws, rfl, hb, hz, hz2, hk, ra⟩
  · unfold Rp; exact ⟨b, ws, rfl, .inl rfl, hb, hz, ef.rpA ra⟩
  · unfold Rp; exact ⟨b, ms, ws, rfl, .inl rfl, hb, hz, hz2, hk, ef.rpA ra⟩
  · unfold Rp; exact ⟨b, ms, ws, rfl, .inl rfl, hb, hz, hz2, hk, ef.rpA ra⟩
theorem Res.toB (p : Pre G P F H) (h : Res G P F H v Q) : ResB G P F H v Q := by
  unfold ResB; split
  · exact h.toF p
  · exact h
theorem ResB.val (h : ResB G P F H v Q) (n : isObjV v = false) : Res G P F H v Q := by unfold ResB at h; rw [n] at h; exact h
theorem ResB.lst {us : List PV} {ws : List V} (p : Pre G P F H) (h : ResB G P F H (.lst us) Q) (r : RpA G F H us ws) (hz : ws.length ≤ sizeLine) : ∀ b, H b = none → Q (.ref b) (upd H b (.lst ws)) := fun b hb => by
  have e : Ext G P F H F (upd H b (.lst ws)) := Ext.fresh p hb
  exact h F _ b e hb (p.freshF hb) (.inl ⟨us, ws, rfl, upd_same, hz, e.rpA r⟩)
end

section
variable {G : Th} {P F : Addr → Prop} {H : Hp} {Q : VK}
/-- a value that needs no heap -/
theorem Res.here (p : Pre G P F H) {v : PV} {z : V} (h : Res G P F H v Q) (r : Rp G F H v z) : Q z H := h F H z (Ext.refl p) r
theorem rp_int {i : Int} : Rp G F H (.int i) (.int i) := by unfold Rp; rfl
theorem rp_bl {i : Bool} : Rp G F H (.bl i) (.bl i) := by unfold Rp; rfl
theorem rp_non : Rp G F H .non .non := by unfold Rp; rfl
theorem rp_str {s : List Nat} (h : PyData.strOk (strV s) = true) (z : s.length ≤ sizeLine) : Rp G F H (.str s) (.str (strV s)) := by unfold Rp; exact ⟨rfl, h, z⟩
theorem Res.int (p : Pre G P F H) {i : Int} (h : Res G P F H (.int i) Q) : Q (.int i) H := h.here p rp_int
theorem Res.bl (p : Pre G P F H) {i : Bool} (h : Res G P F H (.bl i) Q) : Q (.bl i) H := h.here p rp_bl
/-- a new tuple -/
theorem Res.tup (p : Pre G P F H) {us : List PV} {ws : List V} (h : Res G P F H (.tup us) Q) (r : RpA G F H us ws) (hz : ws.length ≤ sizeLine) : ∀ b, H b = none → Q (.ref b) (upd H b (.tup ws)) := fun b hb => by
  have e : Ext G P F H (fun c => c = b ∨ F c) (upd H b (.tup ws)) := Ext.new p hb
  refine h _ _ _ e ?_
  unfold Rp
  exact ⟨b, ws, rfl, .inl rfl, upd_same, hz, e.rpA r⟩
theorem strOk_app {s t : List Nat} (a : PyData.strOk (strV s) = true) (b : PyData.strOk (strV t) = true) : PyData.strOk (strV (s ++ t)) = true := by
  unfold PyData.strOk strV at *
  simp only [List.all_toArray, List.all_append, Bool.and_eq_true] at *
  exact ⟨a, b⟩
theorem str_app (s t : List Nat) : strV s ++ strV t = strV (s ++ t) := by
  show Str.append _ _ = _
  unfold Str.append strV
  simp
end

def bop : BOp → Operator
  | .add => .Add | .sub => .Sub | .mul => .Mult | .fdiv => .FloorDiv | .mod => .Mod | .pow => .Pow | .shl => .LShift
def rBin (K : PySem.W.Frag) : BOp → R2
  | .add => fun x y H Q => rI0 (fun i j => .int (i + j)) x y H Q ∨ (∃ i j, x = .str i ∧ y = .str j ∧ i.length + j.length ≤ sizeLine ∧ Q (.str (i ++ j)) H) ∨ rCat x y H Q ∨ rCatA K x y H Q
  | .sub => rI0 fun i j => .int (i - j)
  | .mul => fun x y H Q => rI CMul (fun i j => .int (i * j)) x y H Q ∨ rRep x y H Q ∨ rRepT K x y H Q
  | .fdiv => rI CDiv fun i j => .int (i / j)
  | .mod => rI (fun _ j => 0 < j) fun i j => .int (i % j)
  | .pow => rI CPow fun i j => .int (i ^ j.toNat)
  | .shl => rI CPow fun i j => .int (i * 2 ^ j.toNat)
theorem op_bin {X : Cx} (o : BOp) : OpR X (binaryOp (bop o)) (rBin X.K o) := by
  cases o with
  | add => exact op_add.or (op_add_str.or (op_cat.or op_catA))
  | sub => exact op_sub
  | mul => exact op_mul.or (op_rep.or op_repT)
  | fdiv => exact op_fdiv
  | mod => exact op_mod
  | pow => exact op_pow
  | shl => exact op_shl
theorem SqT.of' {K : PySem.W.Frag} {H : Hp} {a : Addr} {xs : List V} (h : H a = some (.tup xs)) : SqT K H a xs := SqT.of h
theorem str_len (s : List Nat) : (strV s).length = s.length := by unfold strV Str.length; simp
theorem rp_some {α : Type} {c : Prop} [Decidable c] {a b : α} (h : (if c then some a else none) = some b) : c ∧ a = b := by
  split at h
  · rename_i hc; exact ⟨hc, Option.some.inj h⟩
  · cases h
theorem ok_bin {G : Th} {P F : Addr → Prop} {H : Hp} {Q : VK} {K : PySem.W.Frag} {o : BOp} {x y : V} {p q v : PV} (pr : Pre G P F H) (rx : Rp G F H p x) (ry : Rp G F H q y) (hv : binop o p q = some v) (h : ResB G P F H v Q) : rBin K o x y H Q := by
  unfold binop at hv
  split at hv
  · cases hv; unfold Rp at rx ry; subst rx ry
    exact .inl ⟨_, _, rfl, rfl, (h.val rfl).int pr⟩
  · obtain ⟨hz, rfl⟩ := rp_some hv
    unfold Rp at rx ry; obtain ⟨rfl, s1, l1⟩ := rx; obtain ⟨rfl, s2, l2⟩ := ry
    refine .inr (.inl ⟨_, _, rfl, rfl, by rw [str_len, str_len]; exact le_line hz, ?_⟩)
    rw [str_app]
    exact (h.val rfl).here pr (rp_str (strOk_app s1 s2) (by rw [List.length_append]; exact le_line hz))
  · obtain ⟨hz, rfl⟩ := rp_some hv
    have rx' := rx
    have ry' := ry
    unfold Rp at rx ry; obtain ⟨a, vs, rfl, f1, h1, z1, r1⟩ := rx; obtain ⟨b, ws, rfl, f2, h2, z2, r2⟩ := ry
    have l1 := r1.length
    have l2 := r2.length
    have hz' : vs.length + ws.length ≤ sizeLine := by rw [← l1, ← l2]; exact le_line hz
    have h := h.val rfl
    refine .inr (.inr (.inr ⟨a, b, vs, ws, rfl, rfl, SqT.of h1, SqT.of h2, hz', fun e => ?_, fun _ e => ?_, fun _ _ c hc => ?_⟩))
    · subst e
      have e2 : _ = [] := List.length_eq_zero_iff.mp (l1.trans rfl)
      subst e2
      exact h.here pr ry'
    · subst e
      have e2 : _ = [] := List.length_eq_zero_iff.mp (l2.trans rfl)
      subst e2
      rw [List.append_nil] at h
      exact h.here pr rx'
    · exact h.tup pr (r1.append r2) (by rw [List.length_append]; exact hz') c hc
  · obtain ⟨hz, rfl⟩ := rp_some hv
    unfold Rp at rx ry; obtain ⟨a, vs, rfl, f1, h1, z1, r1⟩ := rx; obtain ⟨b, ws, rfl, f2, h2, z2, r2⟩ := ry
    have hz' : vs.length + ws.length ≤ sizeLine := by rw [← r1.length, ← r2.length]; exact le_line hz
    exact .inr (.inr (.inl ⟨a, b, vs, ws, rfl, rfl, h1, h2, hz', fun c hc => h.lst pr (r1.append r2) (by rw [List.length_append]; exact hz') c hc⟩))
  · cases hv; unfold Rp at rx ry; subst rx ry
    exact ⟨_, _, rfl, rfl, (h.val rfl).int pr⟩
  · obtain ⟨hz, rfl⟩ := rp_some hv
    unfold Rp at rx ry; subst rx ry
    exact .inl ⟨_, _, rfl, rfl, hz, (h.val rfl).int pr⟩
  · obtain ⟨⟨k1, k2, hz⟩, rfl⟩ := rp_some hv
    unfold Rp at rx ry; obtain ⟨a, vs, rfl, f1, h1, z1, r1⟩ := rx; subst ry
    have hz' := le_line hz
    rw [r1.length] at hz'
    refine .inr (.inl ⟨a, _, vs, rfl, rfl, h1, k1, k2, hz', fun c hc => h.lst pr (r1.rep _) ?_ c hc⟩)
    rw [List.length_flatten, List.map_replicate, List.sum_replicate_nat, Nat.mul_comm]
    exact hz'
  · obtain ⟨⟨k0, k1, k2, hz⟩, rfl⟩ := rp_some hv
    unfold Rp at rx ry; obtain ⟨a, vs, rfl, f1, h1, z1, r1⟩ := rx; subst ry
    rename_i k
    have l1 := r1.length
    refine .inr (.inr ⟨a, _, vs, rfl, rfl, SqT.of h1, fun e => ?_, k1, k2, by omega, fun c hc => (h.val rfl).tup pr (r1.rep _) ?_ c hc⟩)
    · subst e
      have z := List.length_eq_zero_iff.mp (l1.trans rfl)
      rw [z] at k0
      simp at k0
    · rw [List.length_flatten, List.map_replicate, List.sum_replicate_nat]
      have : k.toNat ≤ 1000 := by omega
      have h3 : k.toNat * vs.length ≤ 1000 * 1000 := Nat.mul_le_mul this (by omega)
      rw [sizeLine_eq]; omega
  · obtain ⟨hz, rfl⟩ := rp_some hv
    unfold Rp at rx ry; subst rx ry
    exact ⟨_, _, rfl, rfl, hz, (h.val rfl).int pr⟩
  · obtain ⟨hz, rfl⟩ := rp_some hv
    unfold Rp at rx ry; subst rx ry
    exact ⟨_, _, rfl, rfl, hz, (h.val rfl).int pr⟩
  · obtain ⟨hz, rfl⟩ := rp_some hv
    unfold Rp at rx ry; subst rx ry
    exact ⟨_, _, rfl, rfl, hz, (h.val rfl).int pr⟩
  · obtain ⟨hz, rfl⟩ := rp_some hv
    unfold Rp at rx ry; subst rx ry
    exact ⟨_, _, rfl, rfl, hz, (h.val rfl).int pr⟩
  · cases hv
end Pu
end

section
set_option Elab.async false
set_option linter.all false
set_option maxRecDepth 100000
namespace Pu
open PySem PySem.Spec PyProof.Rows L2

mutual
def toD : PV → PyData
  | .non => .none
  | .bl b => .bool b
  | .int i => .int i
  | .str s => .str (strV s)
  | .tup xs => .tuple (toDA xs)
  | .lst xs => .list (toDA xs)
  | _ => .none
def toDA : List PV → List PyData
  | [] => []
  | x :: xs => toD x :: toDA xs
end
theorem strV_inj {s t : List Nat} : strV s = strV t ↔ s = t := by
  unfold strV
  constructor
  · intro h
    have := congrArg (fun z : Str => z.cps.toList) h
    simpa using this
  · intro h; rw [h]
theorem strV_beq (s t : List Nat) : (strV s == strV t) = (s == t) := by
  by_cases h : s = t
  · subst h; simp
  · have : ¬ strV s = strV t := fun z => h (strV_inj.mp z)
    rw [beq_eq_false_iff_ne.mpr h, beq_eq_false_iff_ne.mpr this]
section
variable {G : Th} {F : Addr → Prop} {H : Hp} {K : PySem.W.Frag}
mutual
theorem dp_of : ∀ (n : Nat) (p : PV) (x : V), PV.eqOk n p = true → Rp G F H p x → Dp K H x (toD p) ∧ (toD p).canLay0 = true ∧ (toD p).depth ≤ n
  | n, .non, x, _, r => by
    unfold Rp at r; subst r
    exact ⟨by unfold toD; exact .non, by simp [toD, PyData.canLay0], by simp [toD, PyData.depth]⟩
  | n, .bl b, x, _, r => by
    unfold Rp at r; subst r
    exact ⟨by unfold toD; exact .bl b, by simp [toD, PyData.canLay0], by simp [toD, PyData.depth]⟩
  | n, .int b, x, _, r => by
    unfold Rp at r; subst r
    exact ⟨by unfold toD; exact .int b, by simp [toD, PyData.canLay0], by simp [toD, PyData.depth]⟩
  | n, .str b, x, _, r => by
    unfold Rp at r; obtain ⟨rfl, r, _⟩ := r
    exact ⟨by unfold toD; exact .str _, by simpa [toD, PyData.canLay0] using r, by simp [toD, PyData.depth]⟩
  | 0, .tup ps, x, h, _ => by simp [PV.eqOk] at h
  | 0, .lst ps, x, h, _ => by simp [PV.eqOk] at h
  | n + 1, .tup ps, x, h, r => by
    unfold Rp at r; obtain ⟨a, vs, rfl, f, ha, z, ra⟩ := r
    obtain ⟨d1, d2, d3⟩ := dpA_of n ps vs (by simpa [PV.eqOk] using h) ra
    exact ⟨by unfold toD; exact .tup (SqT.of ha) d1, by simpa [toD, PyData.canLay0] using d2, by simp only [toD, PyData.depth]; omega⟩
  | n + 1, .lst ps, x, h, r => by
    unfold Rp at r; obtain ⟨a, vs, rfl, f, ha, z, ra⟩ := r
    obtain ⟨d1, d2, d3⟩ := dpA_of n ps vs (by simpa [PV.eqOk] using h) ra
    exact ⟨by unfold toD; exact .lst (SqL.of ha) d1, by simpa [toD, PyData.canLay0] using d2, by simp only [toD, PyData.depth]; omega⟩
  | n, .dic _ _ _, x, h, _ => by simp [PV.eqOk] at h
  | n, .scr _, x, h, _ => by simp [PV.eqOk] at h
  | n, .fn _, x, h, _ => by simp [PV.eqOk] at h
theorem dpA_of : ∀ (n : Nat) (ps : List PV) (xs : List V), PV.eqOkA n ps = true → RpA G F H ps xs → DpAll K H xs (toDA ps) ∧ PyData.canLayAll0 (toDA ps) = true ∧ PyData.depthAll (toDA ps) ≤ n
  | n, [], xs, _, r => by
    rw [r.inv0]
    exact ⟨by unfold toDA; exact .nil, by simp [toDA, PyData.canLayAll0], by simp [toDA, PyData.depthAll]⟩
  | n, p :: ps, xs, h, r => by
    obtain ⟨v, vs, rfl, r1, r2⟩ := r.inv
    simp only [PV.eqOkA, Bool.and_eq_true] at h
    obtain ⟨a1, a2, a3⟩ := dp_of n p v h.1 r1
    obtain ⟨b1, b2, b3⟩ := dpA_of n ps vs h.2 r2
    exact ⟨by unfold toDA; exact .cons a1 b1, by simp [toDA, PyData.canLayAll0, a2, b2], by simp only [toDA, PyData.depthAll]; omega⟩
end
theorem shaped_of {p : PV} {x : V} (h : PV.eqOk 64 p = true) (r : Rp G F H p x) : Dp K H x (toD p) ∧ SeqAt.shaped (toD p) = true := by
  obtain ⟨a, b, c⟩ := dp_of (K := K) 64 p x h r
  exact ⟨a, by unfold SeqAt.shaped; rw [b]; simpa using c⟩
end
mutual
theorem beq_eqv : ∀ (n m : Nat) (p q : PV), PV.eqOk n p = true → PV.eqOk m q = true → PyData.eqv (toD p) (toD q) = PV.beq p q
  | n, m, .non, q, _, hq => by cases q <;> first | (simp [PV.eqOk] at hq; done) | rfl | simp [toD, PyData.eqv, PV.beq, strV_beq]
  | n, m, .bl _, q, _, hq => by cases q <;> first | (simp [PV.eqOk] at hq; done) | rfl | simp [toD, PyData.eqv, PV.beq, strV_beq]
  | n, m, .int _, q, _, hq => by cases q <;> first | (simp [PV.eqOk] at hq; done) | rfl | simp [toD, PyData.eqv, PV.beq, strV_beq]
  | n, m, .str s, q, _, hq => by cases q <;> first | (simp [PV.eqOk] at hq; done) | rfl | simp [toD, PyData.eqv, PV.beq, strV_beq]
  | 0, m, .tup ps, q, h, _ => by simp [PV.eqOk] at h
  | 0, m, .lst ps, q, h, _ => by simp [PV.eqOk] at h
  | n + 1, m, .tup ps, q, h, hq => by
    cases q with
    | tup qs =>
      cases m with
      | zero => simp [PV.eqOk] at hq
      | succ m =>
        simp only [toD, PyData.eqv, PV.beq]
        exact beqA_eqv n m ps qs (by simpa [PV.eqOk] using h) (by simpa [PV.eqOk] using hq)
    | _ => first | (simp [PV.eqOk] at hq; done) | simp [toD, PyData.eqv, PV.beq]
  | n + 1, m, .lst ps, q, h, hq => by
    cases q with
    | lst qs =>
      cases m with
      | zero => simp [PV.eqOk] at hq
      | succ m =>
        simp only [toD, PyData.eqv, PV.beq]
        exact beqA_eqv n m ps qs (by simpa [PV.eqOk] using h) (by simpa [PV.eqOk] using hq)
    | _ => first | (simp [PV.eqOk] at hq; done) | simp [toD, PyData.eqv, PV.beq]
  | n, m, .dic _ _ _, q, h, _ => by simp [PV.eqOk] at h
  | n, m, .scr _, q, h, _ => by simp [PV.eqOk] at h
  | n, m, .fn _, q, h, _ => by simp [PV.eqOk] at h
theorem beqA_eqv : ∀ (n m : Nat) (ps qs : List PV), PV.eqOkA n ps = true → PV.eqOkA m qs = true → PyData.eqvAll (toDA ps) (toDA qs) = PV.beqA ps qs
  | n, m, [], [], _, _ => by simp [toDA, PyData.eqvAll, PV.beqA]
  | n, m, [], q :: qs, _, _ => by simp [toDA, PyData.eqvAll, PV.beqA]
  | n, m, p :: ps, [], _, _ => by simp [toDA, PyData.eqvAll, PV.beqA]
  | n, m, p :: ps, q :: qs, h, k => by
    simp only [PV.eqOkA, Bool.and_eq_true] at h k
    simp only [toDA, PyData.eqvAll, PV.beqA]
    rw [beq_eqv n m p q h.1 k.1, beqA_eqv n m ps qs h.2 k.2]
end
theorem toDA_any {n m : Nat} {x : PV} (hx : PV.eqOk n x = true) : ∀ {ps : List PV}, PV.eqOkA m ps = true → ((toDA ps).any fun z => PyData.eqv z (toD x)) = ps.any fun z => PV.beq z x
  | [], _ => by simp [toDA]
  | p :: ps, h => by
    simp only [PV.eqOkA, Bool.and_eq_true] at h
    simp only [toDA, List.any_cons]
    rw [toDA_any hx h.2, beq_eqv m n p x h.1 hx]

def kindF : PV → V
  | .non => .non
  | .bl b => .bl b
  | .int i => .int i
  | .str s => .str (strV s)
  | _ => .non
theorem flat_rel {G : Th} {F : Addr → Prop} {H : Hp} {p : PV} {x : V} (h : flatP p = true) (r : Rp G F H p x) : x = kindF p ∧ flatV x = true := by
  cases p with
  | non => unfold Rp at r; subst r; exact ⟨rfl, rfl⟩
  | bl b => unfold Rp at r; subst r; exact ⟨rfl, rfl⟩
  | int b => unfold Rp at r; subst r; exact ⟨rfl, rfl⟩
  | str s => unfold Rp at r; obtain ⟨rfl, _⟩ := r; exact ⟨rfl, rfl⟩
  | _ => cases h
theorem flat_eqV {p q : PV} (h : flatP p = true) (k : flatP q = true) : eqV (kindF p) (kindF q) = PV.beq p q := by
  cases p <;> cases q <;> first | (simp [flatP] at h; done) | (simp [flatP] at k; done) | rfl | simp [kindF, eqV, PV.beq, strV_beq]
theorem flat_in {G : Th} {F : Addr → Prop} {H : Hp} {p : PV} {x : V} (h : flatP p = true) (r : Rp G F H p x) : ∀ {qs : List PV} {ys : List V}, qs.all flatP = true → RpA G F H qs ys → ys.all flatV = true ∧ inV x ys = qs.any fun z => PV.beq z p
  | [], ys, _, ra => by rw [ra.inv0]; exact ⟨rfl, rfl⟩
  | q :: qs, ys, k, ra => by
    obtain ⟨v, vs, rfl, r1, r2⟩ := ra.inv
    simp only [List.all_cons, Bool.and_eq_true] at k
    obtain ⟨a1, a2⟩ := flat_in h r k.2 r2
    obtain ⟨b1, b2⟩ := flat_rel k.1 r1
    obtain ⟨c1, c2⟩ := flat_rel h r
    refine ⟨by simp only [List.all_cons, b2, a1, Bool.and_self], ?_⟩
    unfold inV at a2 ⊢
    simp only [List.any_cons]
    rw [a2, b1, c1, flat_eqV k.1 h]

def cop : COp → CmpOp
  | .eq => .Eq | .ne => .NotEq | .lt => .Lt | .le => .LtE | .gt => .Gt | .ge => .GtE | .isin => .In | .notin => .NotIn | .is_ => .Is | .isnot => .IsNot
def rDIn : R2 := fun x y H Q => ∃ a o, y = .ref a ∧ DGet H a x o ∧ Q (.bl o.isSome) H
def rDNotIn : R2 := fun x y H Q => ∃ a o, y = .ref a ∧ DGet H a x o ∧ Q (.bl (!o.isSome)) H
theorem op_dIn {X : Cx} (hu : X.A.units + 1 < cLine) : OpR X (compareOp .In) rDIn := fun pins s σ H x y v u Q I rx ry ⟨a, o, e, g, q⟩ => by
  subst e
  obtain rfl : u = Value.ref a := ry
  exact d_in hu I g rx fun s3 I3 => ⟨.bl o.isSome, H, I3, rfl, q⟩
theorem op_dNotIn {X : Cx} (hu : X.A.units + 1 < cLine) : OpR X (compareOp .NotIn) rDNotIn := fun pins s σ H x y v u Q I rx ry ⟨a, o, e, g, q⟩ => by
  subst e
  obtain rfl : u = Value.ref a := ry
  exact d_notIn hu I g rx fun s3 I3 => ⟨.bl (!o.isSome), H, I3, rfl, q⟩
def rCmp (K : PySem.W.Frag) : COp → R2
  | .eq => rEqD K
  | .ne => rNeD K
  | .lt => fun x y H Q => rI0 (fun i j => .bl (decide (i < j))) x y H Q ∨ (∃ i j, x = .str i ∧ y = .str j ∧ Q (.bl (decide (i.cps.toList < j.cps.toList))) H)
  | .le => fun x y H Q => rI0 (fun i j => .bl (decide (i ≤ j))) x y H Q ∨ (∃ i j, x = .str i ∧ y = .str j ∧ Q (.bl (!decide (j.cps.toList < i.cps.toList))) H)
  | .gt => fun x y H Q => rI0 (fun i j => .bl (decide (j < i))) x y H Q ∨ (∃ i j, x = .str i ∧ y = .str j ∧ Q (.bl (decide (j.cps.toList < i.cps.toList))) H)
  | .ge => fun x y H Q => rI0 (fun i j => .bl (decide (j ≤ i))) x y H Q ∨ (∃ i j, x = .str i ∧ y = .str j ∧ Q (.bl (!decide (i.cps.toList < j.cps.toList))) H)
  | .isin => fun x y H Q => rInD K x y H Q ∨ rIn K false x y H Q ∨ (∃ (c : Nat) (z : Str), x = .str ⟨#[c]⟩ ∧ y = .str z ∧ Q (.bl (decide (c ∈ z.cps.toList))) H) ∨ rDIn x y H Q
  | .notin => fun x y H Q => rNotInD K x y H Q ∨ rIn K true x y H Q ∨ (∃ (c : Nat) (z : Str), x = .str ⟨#[c]⟩ ∧ y = .str z ∧ Q (.bl (!decide (c ∈ z.cps.toList))) H) ∨ rDNotIn x y H Q
  | .is_ => fun x y H Q => (y = .non ∧ Q (.bl (decide (x = .non))) H) ∨ rIsB x y H Q
  | .isnot => fun x y H Q => (y = .non ∧ Q (.bl (!decide (x = .non))) H) ∨ rNotB x y H Q
theorem op_cmp {X : Cx} (hu : X.A.units + 65 < cLine) (o : COp) : OpR X (compareOp (cop o)) (rCmp X.K o) := by
  cases o with
  | eq => exact op_eqD (by omega)
  | ne => exact op_neD (by omega)
  | lt => exact op_lt.or op_lt_str
  | le => exact op_le.or op_le_str
  | gt => exact op_gt.or op_gt_str
  | ge => exact op_ge.or op_ge_str
  | isin => exact (op_inD hu).or (op_in_seq.or (op_in_sign.or (op_dIn (by omega))))
  | notin => exact (op_notInD hu).or (op_notIn_seq.or (op_notIn_sign.or (op_dNotIn (by omega))))
  | is_ => exact op_isN.or op_isBl
  | isnot => exact op_notN.or op_notBl

/-! ### dicts -/
def kcv : Sum Int (List Nat) → Key
  | .inl n => .inl n
  | .inr z => .inr (strV z)
theorem kcv_inj {a b : Sum Int (List Nat)} : kcv a = kcv b ↔ a = b := by
  constructor
  · intro h
    cases a with
    | inl n => cases b with
      | inl m => exact congrArg Sum.inl (Sum.inl.inj h)
      | inr m => cases h
    | inr n => cases b with
      | inl m => cases h
      | inr m => exact congrArg Sum.inr (strV_inj.mp (Sum.inr.inj h))
  · intro h; rw [h]
theorem kcvL_inj : ∀ {a b : List (Sum Int (List Nat))}, a.map kcv = b.map kcv → a = b
  | [], [], _ => rfl
  | [], _ :: _, h => by simp at h
  | _ :: _, [], h => by simp at h
  | x :: xs, y :: ys, h => by
    simp only [List.map_cons, List.cons.injEq] at h
    rw [kcv_inj.mp h.1, kcvL_inj h.2]
theorem dkT_eq (ks : List (Sum Int (List Nat))) : dkT (.t ks) = some (ks.map kcv) := rfl
theorem dkK_inj {a b : DK} {x y : Key} (ha : dkK a = some x) (hb : dkK b = some y) : (a = b ↔ x = y) := by
  cases a with
  | i n => cases b with
    | i m => cases ha; cases hb; exact ⟨fun h => by cases h; rfl, fun h => by cases h; rfl⟩
    | s m => cases ha; cases hb; exact ⟨fun h => (nomatch h), fun h => (nomatch h)⟩
    | t m => cases hb
  | s n => cases b with
    | i m => cases ha; cases hb; exact ⟨fun h => (nomatch h), fun h => (nomatch h)⟩
    | s m => cases ha; cases hb; exact ⟨fun h => by cases h; rfl, fun h => congrArg DK.s (strV_inj.mp (Sum.inr.inj h))⟩
    | t m => cases hb
  | t n => cases ha
theorem dkT_inj {a b : DK} {x y : List Key} (ha : dkT a = some x) (hb : dkT b = some y) : (a = b ↔ x = y) := by
  cases a with
  | t n => cases b with
    | t m =>
      rw [dkT_eq] at ha hb; cases ha; cases hb
      exact ⟨fun h => by cases h; rfl, fun h => congrArg DK.t (kcvL_inj h)⟩
    | _ => cases hb
  | _ => cases ha
section
variable {κ : Type} [DecidableEq κ] {cv : DK → Option κ} (inj : ∀ {a b : DK} {x y : κ}, cv a = some x → cv b = some y → (a = b ↔ x = y))
include inj
theorem dict_any {k : DK} {y : κ} (hk : cv k = some y) : ∀ {ks : List DK} {ms : List κ}, ks.map cv = ms.map some → ks.any (fun z => decide (z = k)) = ms.any (fun z => decide (z = y))
  | [], [], _ => rfl
  | [], _ :: _, h => by simp at h
  | _ :: _, [], h => by simp at h
  | a :: ks, m :: ms, h => by
    simp only [List.map_cons, List.cons.injEq] at h
    simp only [List.any_cons]
    rw [dict_any hk h.2]
    have := inj h.1 hk
    by_cases e : a = k
    · rw [decide_eq_true e, decide_eq_true (this.mp e)]
    · rw [decide_eq_false e, decide_eq_false (fun z => e (this.mpr z))]
theorem dict_get {G : Th} {F : Addr → Prop} {H : Hp} {k : DK} {y : κ} (hk : cv k = some y) : ∀ {ks : List DK} {ms : List κ} {ps : List PV} {vs : List V}, ks.map cv = ms.map some → ms.length = vs.length → RpA G F H ps vs →
    (∀ p, dget ks ps k = some p → ∃ v, valV (ms.zip vs) y = some v ∧ Rp G F H p v) ∧ (dget ks ps k = none → valV (ms.zip vs) y = none)
  | [], [], ps, vs, _, l, r => by
    have : vs = [] := List.length_eq_zero_iff.mp l.symm
    subst this
    exact ⟨fun p h => by simp [dget] at h, fun _ => rfl⟩
  | [], _ :: _, _, _, h, _, _ => by simp at h
  | _ :: _, [], _, _, h, _, _ => by simp at h
  | a :: ks, m :: ms, ps, vs, h, l, r => by
    cases vs with
    | nil => simp at l
    | cons v vs =>
      cases ps with
      | nil => exact absurd r.length (by simp)
      | cons p ps =>
        obtain ⟨v', vs', e, r1, r2⟩ := r.inv
        cases e
        simp only [List.map_cons, List.cons.injEq] at h
        have ij := inj h.1 hk
        rw [List.zip_cons_cons]
        unfold dget
        by_cases e : a = k
        · rw [if_pos e, valV_pos (p := (m, v)) (ij.mp e)]
          exact ⟨fun q hq => by cases hq; exact ⟨v, rfl, r1⟩, fun z => by cases z⟩
        · rw [if_neg e, valV_neg (p := (m, v)) (fun z => e (ij.mpr z))]
          exact dict_get hk h.2 (by simpa using l) r2
theorem dict_put {G : Th} {F : Addr → Prop} {H : Hp} {k : DK} {y : κ} (hk : cv k = some y) {p : PV} {v : V} (rp : Rp G F H p v) {ks : List DK} {ms : List κ} {ps : List PV} {vs : List V} (h : ks.map cv = ms.map some) (l : ms.length = vs.length) (r : RpA G F H ps vs) :
    ∃ (ms' : List κ) (vs' : List V), putK (ms.zip vs) y v = ms'.zip vs' ∧ ms'.length = vs'.length ∧ vs'.length ≤ vs.length + 1 ∧ (dputK ks k).map cv = ms'.map some ∧ RpA G F H (dputV ks ps k p) vs' := by
  have ha : ((ms.zip vs).any fun kv => decide (kv.1 = y)) = ks.any (fun z => decide (z = k)) := by
    rw [dict_any inj hk h]
    have : ∀ (ms : List κ) (vs : List V), ms.length = vs.length → ((ms.zip vs).any fun kv => decide (kv.1 = y)) = ms.any fun z => decide (z = y) := by
      intro ms
      induction ms with
      | nil => intro vs _; simp
      | cons m ms ih =>
        intro vs l
        cases vs with
        | nil => simp at l
        | cons v vs => simp only [List.zip_cons_cons, List.any_cons]; rw [ih vs (by simpa using l)]
    exact this ms vs l
  unfold putK dputK dputV
  rw [ha]
  by_cases c : ks.any (fun z => decide (z = k)) = true
  · rw [if_pos c, if_pos c, if_pos c]
    refine ⟨ms, List.zipWith (fun m u => if m = y then v else u) ms vs, ?_, by simp [l], by simp [l], h, ?_⟩
    · clear ha c r h
      induction ms generalizing vs with
      | nil => simp
      | cons m ms ih =>
        cases vs with
        | nil => simp at l
        | cons u vs =>
          simp only [List.zip_cons_cons, List.map_cons, List.zipWith_cons_cons]
          rw [ih (by simpa using l)]
          split <;> rfl
    · clear ha c
      induction ks generalizing ms vs ps with
      | nil =>
        cases ms with
        | nil => simp; exact RpA.nil
        | cons _ _ => simp at h
      | cons a ks ih =>
        cases ms with
        | nil => simp at h
        | cons m ms =>
          cases vs with
          | nil => simp at l
          | cons u vs =>
            cases ps with
            | nil => exact absurd r.length (by simp)
            | cons q ps =>
              obtain ⟨u', vs', e, r1, r2⟩ := r.inv
              cases e
              simp only [List.map_cons, List.cons.injEq] at h
              simp only [List.zipWith_cons_cons]
              refine RpA.cons ?_ (ih h.2 (by simpa using l) r2)
              have ij := inj h.1 hk
              by_cases e : a = k
              · rw [if_pos e, if_pos (ij.mp e)]; exact rp
              · rw [if_neg e, if_neg (fun z => e (ij.mpr z))]; exact r1
  · rw [if_neg c, if_neg c, if_neg c]
    refine ⟨ms ++ [y], vs ++ [v], ?_, by simp [l], by simp, by simp [h, hk], r.append (RpA.cons rp RpA.nil)⟩
    rw [List.zip_append l]; rfl
end
theorem keyL_map : ∀ {xs : List PV} {ks : List (Sum Int (List Nat))}, keyL xs = some ks → ∀ {G : Th} {F : Addr → Prop} {H : Hp} {vs : List V}, RpA G F H xs vs → vs = (ks.map kcv).map kV
  | [], ks, h, _, _, _, vs, r => by
    unfold keyL at h; cases h
    rw [r.inv0]; rfl
  | x :: xs, ks, h, _, _, _, vs, r => by
    unfold keyL at h
    obtain ⟨v, ws, rfl, r1, r2⟩ := r.inv
    split at h
    · rename_i k ks' h1 h2
      cases h
      rw [List.map_cons, List.map_cons, keyL_map h2 r2]
      have : v = kV (kcv k) := by
        cases x with
        | int i => cases h1; unfold Rp at r1; exact r1
        | str i => cases h1; unfold Rp at r1; exact r1.1
        | _ => cases h1
      rw [this]
    · cases h
/-- how a key lies: in a dict of numbers and texts; in one of tuples -/
theorem key_of {G : Th} {F : Addr → Prop} {H : Hp} {t : Bool} {q : PV} {y : V} {k : DK} (h : keyOf t q = some k) (r : Rp G F H q y) :
    (t = false ∧ ∃ m, dkK k = some m ∧ y = kV m) ∨ (t = true ∧ ∃ m b, dkT k = some m ∧ y = .ref b ∧ F b ∧ H b = some (.tup (m.map kV))) := by
  unfold keyOf at h
  split at h
  · cases h; unfold Rp at r; exact .inl ⟨rfl, _, rfl, r⟩
  · cases h; unfold Rp at r; exact .inl ⟨rfl, _, rfl, r.1⟩
  · rename_i xs
    cases e : keyL xs with
    | none => rw [e] at h; cases h
    | some ks =>
      rw [e] at h; cases h
      unfold Rp at r; obtain ⟨a, vs, rfl, f, ha, z, ra⟩ := r
      exact .inr ⟨rfl, _, a, dkT_eq ks, rfl, f, by rw [keyL_map e ra] at ha; exact ha⟩
  · cases h
/-- a dict asked at a key -/
theorem dget_of {G : Th} {F : Addr → Prop} {H : Hp} {t : Bool} {ks : List DK} {ps : List PV} {q : PV} {y : V} {k : DK} {a : Addr} (h : keyOf t q = some k) (r : Rp G F H q y)
    (hd : (t = false ∧ ∃ (ms : List Key) (vs : List V), H a = some (.dK (ms.zip vs)) ∧ ms.length = vs.length ∧ vs.length ≤ sizeLine ∧ ks.map dkK = ms.map some ∧ RpA G F H ps vs) ∨
      (t = true ∧ ∃ (ms : List (List Key)) (vs : List V), H a = some (.dT (ms.zip vs)) ∧ ms.length = vs.length ∧ vs.length ≤ sizeLine ∧ ks.map dkT = ms.map some ∧ RpA G F H ps vs)) :
    ∃ o, DGet H a y o ∧ o.isSome = ks.any (fun z => decide (z = k)) ∧ (∀ p, dget ks ps k = some p → ∃ v, o = some v ∧ Rp G F H p v) ∧ (dget ks ps k = none → o = none) := by
  rcases hd with ⟨rfl, ms, vs, ha, l, z, hk, ra⟩ | ⟨rfl, ms, vs, ha, l, z, hk, ra⟩
  · rcases key_of h r with ⟨_, m, e1, rfl⟩ | ⟨z, _⟩
    · obtain ⟨g1, g2⟩ := dict_get dkK_inj e1 hk l ra
      refine ⟨valV (ms.zip vs) m, DGet.k ha, ?_, g1, g2⟩
      rw [dict_any dkK_inj e1 hk, ← valV_any]
      clear g1 g2 hk ra ha z
      induction ms generalizing vs with
      | nil => simp
      | cons m' ms ih =>
        cases vs with
        | nil => simp at l
        | cons v vs => simp only [List.zip_cons_cons, List.any_cons]; rw [ih vs (by simpa using l)]
    · cases z
  · rcases key_of h r with ⟨z, _⟩ | ⟨_, m, b, e1, rfl, fb, hb⟩
    · cases z
    · obtain ⟨g1, g2⟩ := dict_get dkT_inj e1 hk l ra
      refine ⟨valV (ms.zip vs) m, DGet.t ha hb, ?_, g1, g2⟩
      rw [dict_any dkT_inj e1 hk, ← valV_any]
      clear g1 g2 hk ra ha z
      induction ms generalizing vs with
      | nil => simp
      | cons m' ms ih =>
        cases vs with
        | nil => simp at l
        | cons v vs => simp only [List.zip_cons_cons, List.any_cons]; rw [ih vs (by simpa using l)]
/-- a dict that stays, as dget_of wants it -/
theorem dic_of {G : Th} {F : Addr → Prop} {H : Hp} {t : Bool} {ks : List DK} {ps : List PV} {x : V} (r : Rp G F H (.dic t ks ps) x) : ∃ a, x = .ref a ∧ F a ∧
    ((t = false ∧ ∃ (ms : List Key) (vs : List V), H a = some (.dK (ms.zip vs)) ∧ ms.length = vs.length ∧ vs.length ≤ sizeLine ∧ ks.map dkK = ms.map some ∧ RpA G F H ps vs) ∨
      (t = true ∧ ∃ (ms : List (List Key)) (vs : List V), H a = some (.dT (ms.zip vs)) ∧ ms.length = vs.length ∧ vs.length ≤ sizeLine ∧ ks.map dkT = ms.map some ∧ RpA G F H ps vs)) := by
  cases t with
  | false =>
    unfold Rp at r
    obtain ⟨a, ms, vs, rfl, f, ha, l, z, hk, ra⟩ := r
    exact ⟨a, rfl, f, .inl ⟨rfl, ms, vs, ha, l, z, hk, ra⟩⟩
  | true =>
    unfold Rp at r
    obtain ⟨a, ms, vs, rfl, f, ha, l, z, hk, ra⟩ := r
    exact ⟨a, rfl, f, .inr ⟨rfl, ms, vs, ha, l, z, hk, ra⟩⟩

theorem ok_cmp {G : Th} {F : Addr → Prop} {H : Hp} {Q : VK} {K : PySem.W.Frag} {o : COp} {x y : V} {p q : PV} {b : Bool} (rx : Rp G F H p x) (ry : Rp G F H q y) (hv : cmpop o p q = some b) (h : Q (.bl b) H) : rCmp K o x y H Q := by
  have eqD : ∀ {b : Bool}, pveq p q = some b → ∃ d e, Dp K H x d ∧ Dp K H y e ∧ SeqAt.shaped d = true ∧ SeqAt.shaped e = true ∧ PyData.eqv d e = b := fun {b} z => by
    unfold pveq at z
    obtain ⟨c, rfl⟩ := rp_some z
    simp only [Bool.and_eq_true] at c
    obtain ⟨d1, s1⟩ := shaped_of (K := K) c.1 rx
    obtain ⟨d2, s2⟩ := shaped_of (K := K) c.2 ry
    exact ⟨_, _, d1, d2, s1, s2, beq_eqv 64 64 p q c.1 c.2⟩
  have inD : ∀ {xs : List PV} {b : Bool}, q = .lst xs → pvin p xs = some b → ∃ d ds, Dp K H x d ∧ Dp K H y (.list ds) ∧ SeqAt.shaped d = true ∧ SeqAt.shaped (.list ds) = true ∧ (ds.any fun z => PyData.eqv z d) = b := fun {xs b} e z => by
    subst e
    unfold pvin at z
    obtain ⟨c, rfl⟩ := rp_some z
    simp only [Bool.and_eq_true] at c
    obtain ⟨d1, s1⟩ := shaped_of (K := K) c.1 rx
    have c2 : PV.eqOk 64 (.lst xs) = true := by simpa [PV.eqOk] using c.2
    obtain ⟨d2, s2⟩ := shaped_of (K := K) c2 ry
    unfold toD at d2 s2
    exact ⟨_, _, d1, d2, s1, s2, toDA_any c.1 c.2⟩
  have inF : ∀ {xs : List PV} {b : Bool}, q = .tup xs → pvinF p xs = some b → ∃ a ys, y = .ref a ∧ (SqL K H a ys ∨ SqT K H a ys) ∧ flatV x = true ∧ ys.all flatV = true ∧ inV x ys = b := fun {xs b} e z => by
    subst e
    unfold pvinF at z
    obtain ⟨c, rfl⟩ := rp_some z
    simp only [Bool.and_eq_true] at c
    unfold Rp at ry
    obtain ⟨a, vs, rfl, f, ha, zz, ra⟩ := ry
    obtain ⟨i1, i2⟩ := flat_in c.1 rx c.2 ra
    exact ⟨a, vs, rfl, .inr (SqT.of ha), (flat_rel c.1 rx).2, i1, i2⟩
  have lt_ : ∀ {p q : PV} {x y : V} {b : Bool}, Rp G F H p x → Rp G F H q y → ltP p q = some b → (∃ i j, x = .int i ∧ y = .int j ∧ decide (i < j) = b) ∨ (∃ i j, x = .str i ∧ y = .str j ∧ decide (i.cps.toList < j.cps.toList) = b) := fun {p q x y b} rx ry z => by
    unfold ltP at z
    split at z
    · cases z; unfold Rp at rx ry; subst rx ry; exact .inl ⟨_, _, rfl, rfl, rfl⟩
    · cases z; unfold Rp at rx ry; obtain ⟨rfl, _⟩ := rx; obtain ⟨rfl, _⟩ := ry; exact .inr ⟨_, _, rfl, rfl, rfl⟩
    · cases z
  have le_ : ∀ {p q : PV} {x y : V} {b : Bool}, Rp G F H p x → Rp G F H q y → leP p q = some b → (∃ i j, x = .int i ∧ y = .int j ∧ decide (i ≤ j) = b) ∨ (∃ i j, x = .str i ∧ y = .str j ∧ (!decide (j.cps.toList < i.cps.toList)) = b) := fun {p q x y b} rx ry z => by
    unfold leP at z
    split at z
    · cases z; unfold Rp at rx ry; subst rx ry; exact .inl ⟨_, _, rfl, rfl, rfl⟩
    · cases z; unfold Rp at rx ry; obtain ⟨rfl, _⟩ := rx; obtain ⟨rfl, _⟩ := ry; exact .inr ⟨_, _, rfl, rfl, rfl⟩
    · cases z
  have in_ : ∀ {b : Bool}, inP p q = some b → (∃ d ds, Dp K H x d ∧ Dp K H y (.list ds) ∧ SeqAt.shaped d = true ∧ SeqAt.shaped (.list ds) = true ∧ (ds.any fun z => PyData.eqv z d) = b) ∨
      (∃ a ys, y = .ref a ∧ (SqL K H a ys ∨ SqT K H a ys) ∧ flatV x = true ∧ ys.all flatV = true ∧ inV x ys = b) ∨
      (∃ (c : Nat) (z : Str), x = .str ⟨#[c]⟩ ∧ y = .str z ∧ decide (c ∈ z.cps.toList) = b) ∨ ∃ a o, y = .ref a ∧ DGet H a x o ∧ o.isSome = b := fun {b} z => by
    unfold inP at z
    split at z
    · exact .inl (inD rfl z)
    · exact .inr (.inl (inF rfl z))
    · split at z
      · cases z; unfold Rp at rx ry; obtain ⟨rfl, _⟩ := rx; obtain ⟨rfl, _⟩ := ry; exact .inr (.inr (.inl ⟨_, _, rfl, rfl, decide_eq_decide.mpr (by simp [strV])⟩))
      · cases z
    · rename_i t ks ps
      cases hk : keyOf t p with
      | none => rw [hk] at z; cases z
      | some k =>
        rw [hk] at z; cases z
        obtain ⟨a, rfl, f, hd⟩ := dic_of ry
        obtain ⟨o, g1, g2, _⟩ := dget_of hk rx hd
        exact .inr (.inr (.inr ⟨a, o, rfl, g1, g2⟩))
    · cases z
  have non_ : decide (x = V.non) = p.isNon := by
    cases p with
    | non => unfold Rp at rx; subst rx; rfl
    | bl _ => unfold Rp at rx; subst rx; rfl
    | int _ => unfold Rp at rx; subst rx; rfl
    | str _ => unfold Rp at rx; rw [rx.1]; rfl
    | tup _ => unfold Rp at rx; obtain ⟨a, _, rfl, _⟩ := rx; rfl
    | lst _ => unfold Rp at rx; obtain ⟨a, _, rfl, _⟩ := rx; rfl
    | dic t _ _ => obtain ⟨a, rfl, _⟩ := dic_of rx; rfl
    | scr _ => unfold Rp at rx; obtain ⟨a, _, _, rfl, _⟩ := rx; rfl
    | fn _ => unfold Rp at rx; subst rx; rfl
  have is_ : ∀ {b : Bool}, isP p q = some b → (y = .non ∧ decide (x = .non) = b) ∨ ∃ c d : Bool, x = .bl c ∧ y = .bl d ∧ decide (c = d) = b := fun {b} z => by
    unfold isP at z
    split at z
    · cases z; unfold Rp at ry; exact .inl ⟨ry, non_⟩
    · split at z
      · rename_i d _ c; cases z; unfold Rp at rx ry; exact .inr ⟨_, _, rx, ry, by cases c <;> cases d <;> rfl⟩
      · cases z
    · cases z
  have neg : ∀ {o : Option Bool} {b : Bool}, o.map (!·) = some b → ∃ b', o = some b' ∧ b = !b' := fun {o b} z => by
    cases o with
    | none => cases z
    | some b' => cases z; exact ⟨b', rfl, rfl⟩
  unfold cmpop at hv
  cases o <;> dsimp only at hv
  · obtain ⟨d, e, h1, h2, h3, h4, rfl⟩ := eqD hv
    exact ⟨d, e, h1, h2, h3, h4, h⟩
  · obtain ⟨b', hw, rfl⟩ := neg hv; clear hv; have hv := hw
    obtain ⟨d, e, h1, h2, h3, h4, rfl⟩ := eqD hv
    exact ⟨d, e, h1, h2, h3, h4, h⟩
  · rcases lt_ rx ry hv with ⟨i, j, rfl, rfl, rfl⟩ | ⟨i, j, rfl, rfl, rfl⟩
    · exact .inl ⟨_, _, rfl, rfl, h⟩
    · exact .inr ⟨_, _, rfl, rfl, h⟩
  · rcases le_ rx ry hv with ⟨i, j, rfl, rfl, rfl⟩ | ⟨i, j, rfl, rfl, rfl⟩
    · exact .inl ⟨_, _, rfl, rfl, h⟩
    · exact .inr ⟨_, _, rfl, rfl, h⟩
  · rcases lt_ ry rx hv with ⟨i, j, rfl, rfl, rfl⟩ | ⟨i, j, rfl, rfl, rfl⟩
    · exact .inl ⟨_, _, rfl, rfl, h⟩
    · exact .inr ⟨_, _, rfl, rfl, h⟩
  · rcases le_ ry rx hv with ⟨i, j, rfl, rfl, rfl⟩ | ⟨i, j, rfl, rfl, rfl⟩
    · exact .inl ⟨_, _, rfl, rfl, h⟩
    · exact .inr ⟨_, _, rfl, rfl, h⟩
  · rcases in_ hv with ⟨d, ds, h1, h2, h3, h4, rfl⟩ | ⟨a, ys, h1, h2, h3, h4, rfl⟩ | ⟨c, z, h1, h2, rfl⟩ | ⟨a, o, h1, h2, rfl⟩
    · exact .inl ⟨d, ds, h1, h2, h3, h4, h⟩
    · exact .inr (.inl ⟨a, ys, h1, h2, h3, h4, h⟩)
    · exact .inr (.inr (.inl ⟨c, z, h1, h2, h⟩))
    · exact .inr (.inr (.inr ⟨a, o, h1, h2, h⟩))
  · obtain ⟨b', hw, rfl⟩ := neg hv; clear hv; have hv := hw
    rcases in_ hv with ⟨d, ds, h1, h2, h3, h4, rfl⟩ | ⟨a, ys, h1, h2, h3, h4, rfl⟩ | ⟨c, z, h1, h2, rfl⟩ | ⟨a, o, h1, h2, rfl⟩
    · exact .inl ⟨d, ds, h1, h2, h3, h4, h⟩
    · exact .inr (.inl ⟨a, ys, h1, h2, h3, h4, h⟩)
    · exact .inr (.inr (.inl ⟨c, z, h1, h2, h⟩))
    · exact .inr (.inr (.inr ⟨a, o, h1, h2, h⟩))
  · rcases is_ hv with ⟨h1, rfl⟩ | ⟨c, d, h1, h2, rfl⟩
    · exact .inl ⟨h1, h⟩
    · exact .inr ⟨c, d, h1, h2, h⟩
  · obtain ⟨b', hw, rfl⟩ := neg hv; clear hv; have hv := hw
    rcases is_ hv with ⟨h1, rfl⟩ | ⟨c, d, h1, h2, rfl⟩
    · exact .inl ⟨h1, h⟩
    · exact .inr ⟨c, d, h1, h2, h⟩
end Pu
end

section
set_option Elab.async false
set_option linter.all false
set_option maxRecDepth 100000
namespace Pu
open PySem PySem.Spec PyProof.Rows L2 PySem.W

/-! ### the order -/
mutual
theorem alike_of : ∀ (p q : PV), sameK p q = true → alike (toD p) (toD q) = true
  | .int _, q, h => by cases q <;> first | (simp [sameK] at h; done) | simp [toD, alike]
  | .str _, q, h => by cases q <;> first | (simp [sameK] at h; done) | simp [toD, alike]
  | .tup xs, q, h => by
    cases q with
    | tup ys => simp only [toD, alike]; exact alikeA_of xs ys (by simpa [sameK] using h)
    | _ => simp [sameK] at h
  | .non, q, h => by simp [sameK] at h
  | .bl _, q, h => by simp [sameK] at h
  | .lst _, q, h => by simp [sameK] at h
  | .dic _ _ _, q, h => by simp [sameK] at h
  | .scr _, q, h => by simp [sameK] at h
  | .fn _, q, h => by simp [sameK] at h
theorem alikeA_of : ∀ (ps qs : List PV), sameKA ps qs = true → alikeAll (toDA ps) (toDA qs) = true
  | [], qs, _ => by simp [toDA, alikeAll]
  | _ :: _, [], _ => by simp [toDA, alikeAll]
  | p :: ps, q :: qs, h => by
    simp only [sameKA, Bool.and_eq_true] at h
    simp only [toDA, alikeAll, alike_of p q h.1, alikeA_of ps qs h.2, Bool.and_self]
end
mutual
theorem eqv_same : ∀ (p q : PV), sameK p q = true → PyData.eqv (toD p) (toD q) = PV.beq p q
  | .int _, q, h => by cases q <;> first | (simp [sameK] at h; done) | simp [toD, PyData.eqv, PV.beq]
  | .str _, q, h => by cases q <;> first | (simp [sameK] at h; done) | simp [toD, PyData.eqv, PV.beq, strV_beq]
  | .tup xs, q, h => by
    cases q with
    | tup ys => simp only [toD, PyData.eqv, PV.beq]; exact eqvA_same xs ys (by simpa [sameK] using h)
    | _ => simp [sameK] at h
  | .non, q, h => by simp [sameK] at h
  | .bl _, q, h => by simp [sameK] at h
  | .lst _, q, h => by simp [sameK] at h
  | .dic _ _ _, q, h => by simp [sameK] at h
  | .scr _, q, h => by simp [sameK] at h
  | .fn _, q, h => by simp [sameK] at h
theorem eqvA_same : ∀ (ps qs : List PV), sameKA ps qs = true → PyData.eqvAll (toDA ps) (toDA qs) = PV.beqA ps qs
  | [], [], _ => by simp [toDA, PyData.eqvAll, PV.beqA]
  | [], _ :: _, _ => by simp [toDA, PyData.eqvAll, PV.beqA]
  | _ :: _, [], _ => by simp [toDA, PyData.eqvAll, PV.beqA]
  | p :: ps, q :: qs, h => by
    simp only [sameKA, Bool.and_eq_true] at h
    simp only [toDA, PyData.eqvAll, PV.beqA, eqv_same p q h.1, eqvA_same ps qs h.2]
end
mutual
theorem dataLt_of : ∀ (p q : PV), sameK p q = true → dataLt (toD p) (toD q) = plt p q
  | .int _, q, h => by cases q <;> first | (simp [sameK] at h; done) | (simp only [toD, plt, dataLt_int])
  | .str _, q, h => by cases q <;> first | (simp [sameK] at h; done) | (simp only [toD, plt, dataLt_str, strV])
  | .tup xs, q, h => by
    cases q with
    | tup ys => simp only [toD, plt]; rw [dataLt_tuple]; exact dataLtA_of xs ys (by simpa [sameK] using h)
    | _ => simp [sameK] at h
  | .non, q, h => by simp [sameK] at h
  | .bl _, q, h => by simp [sameK] at h
  | .lst _, q, h => by simp [sameK] at h
  | .dic _ _ _, q, h => by simp [sameK] at h
  | .scr _, q, h => by simp [sameK] at h
  | .fn _, q, h => by simp [sameK] at h
theorem dataLtA_of : ∀ (ps qs : List PV), sameKA ps qs = true → PyProof.Rows.lexLt itemOrd (keyToksAll (toDA ps)) (keyToksAll (toDA qs)) = pltA ps qs
  | [], [], _ => by simp only [toDA, pltA]; exact lex_irrefl _
  | [], q :: qs, _ => by
    simp only [toDA, pltA, keyToksAll]
    exact (lex_atom (by simp) _ _).trans (lex_one _ _)
  | p :: ps, [], _ => by
    simp only [toDA, pltA, keyToksAll]
    exact (lex_atom (by simp) _ _).trans (lex_one _ _)
  | p :: ps, q :: qs, h => by
    simp only [sameKA, Bool.and_eq_true] at h
    simp only [toDA, pltA]
    cases e : PV.beq p q with
    | true =>
      rw [dataLt_all_yes (alike_of p q h.1) (by rw [eqv_same p q h.1]; exact e), if_pos rfl]
      exact dataLtA_of ps qs h.2
    | false =>
      rw [dataLt_all_no (alike_of p q h.1) (by rw [eqv_same p q h.1]; exact e), if_neg (by simp)]
      exact dataLt_of p q h.1
end
theorem toDA_map : ∀ xs : List PV, toDA xs = xs.map toD
  | [] => by simp [toDA]
  | x :: xs => by simp [toDA, toDA_map xs]
theorem alikeP_same {xs : List PV} (h : alikeP xs = true) : ∀ x ∈ xs, ∀ y ∈ xs, sameK x y = true := by
  unfold alikeP at h
  simp only [Bool.and_eq_true, List.all_eq_true] at h
  exact h.1

/-- lists laid side by side -/
theorem zip_fst {α β : Type} : ∀ {xs : List α} {ys : List β}, xs.length = ys.length → (xs.zip ys).map Prod.fst = xs
  | [], [], _ => rfl
  | [], _ :: _, h => by simp at h
  | _ :: _, [], h => by simp at h
  | x :: xs, y :: ys, h => by simp only [List.zip_cons_cons, List.map_cons]; rw [zip_fst (by simpa using h)]
theorem zip_snd {α β : Type} : ∀ {xs : List α} {ys : List β}, xs.length = ys.length → (xs.zip ys).map Prod.snd = ys
  | [], [], _ => rfl
  | [], _ :: _, h => by simp at h
  | _ :: _, [], h => by simp at h
  | x :: xs, y :: ys, h => by simp only [List.zip_cons_cons, List.map_cons]; rw [zip_snd (by simpa using h)]
theorem rpA_zip {G : Th} {F : Addr → Prop} {H : Hp} : ∀ {ps : List PV} {xs : List V}, RpA G F H ps xs → ∀ b ∈ ps.zip xs, Rp G F H b.1 b.2
  | [], _, _, b, hb => by simp at hb
  | p :: ps, xs, r, b, hb => by
    obtain ⟨v, vs, rfl, r1, r2⟩ := r.inv
    rw [List.zip_cons_cons] at hb
    rcases List.mem_cons.mp hb with rfl | hb
    · exact r1
    · exact rpA_zip r2 b hb
theorem rpA_of_zip {G : Th} {F : Addr → Prop} {H : Hp} : ∀ {bs : List (PV × V)}, (∀ b ∈ bs, Rp G F H b.1 b.2) → RpA G F H (bs.map Prod.fst) (bs.map Prod.snd)
  | [], _ => RpA.nil
  | b :: bs, h => RpA.cons (h b List.mem_cons_self) (rpA_of_zip fun c hc => h c (List.mem_cons_of_mem _ hc))
def sortedB (ps : List PV) (xs : List V) : List (PV × V) := (ps.zip xs).mergeSort (dataLe false fun b => toD b.1)
theorem sortedB_fst {ps : List PV} {xs : List V} (hl : ps.length = xs.length) (h : alikeP ps = true) : (sortedB ps xs).map Prod.fst = psort ps := by
  unfold sortedB
  rw [psort_eq, sort_maps (s := fun a b => !plt b a) Prod.fst, zip_fst hl]
  intro a ha b hb
  rw [dataLe_eq]
  have ma : a.1 ∈ ps := (List.of_mem_zip ha).1
  have mb : b.1 ∈ ps := (List.of_mem_zip hb).1
  simp only [cond_false]
  rw [dataLt_of b.1 a.1 (alikeP_same h _ mb _ ma)]
theorem sortedB_rp {G : Th} {F : Addr → Prop} {H : Hp} {ps : List PV} {xs : List V} (r : RpA G F H ps xs) (h : alikeP ps = true) : RpA G F H (psort ps) ((sortedB ps xs).map Prod.snd) := by
  rw [← sortedB_fst r.length h]
  refine rpA_of_zip fun b hb => rpA_zip r b ?_
  exact List.mem_mergeSort.mp hb
theorem sortedB_len {ps : List PV} {xs : List V} (hl : ps.length = xs.length) : ((sortedB ps xs).map Prod.snd).length = xs.length := by
  unfold sortedB
  rw [List.length_map, List.length_mergeSort, List.length_zip, hl, Nat.min_self]
theorem sortable_of {ps : List PV} {xs : List V} (h : canSort ps = true) : Sortable ((ps.zip xs).map fun b => toD b.1) := by
  unfold canSort at h
  simp only [Bool.and_eq_true, Bool.or_eq_true, List.all_eq_true] at h
  rcases h.2 with z | z
  · refine .inl fun d hd => ?_
    obtain ⟨b, hb, rfl⟩ := List.mem_map.mp hd
    have := z b.1 (List.of_mem_zip hb).1
    cases e : b.1 with
    | tup ys =>
      rw [e] at this
      cases ys with
      | nil => simp [isTupNE] at this
      | cons y ys => exact ⟨toD y, toDA ys, by simp [toD, toDA]⟩
    | _ => rw [e] at this; simp [isTupNE] at this
  · refine .inr fun d hd => ?_
    obtain ⟨b, hb, rfl⟩ := List.mem_map.mp hd
    have m := (List.of_mem_zip hb).1
    have nt := z b.1 m
    have sk := alikeP_same h.1 _ m _ m
    cases e : b.1 with
    | tup ys => rw [e] at nt; simp [notTup] at nt
    | int _ => simp [toD]
    | str _ => simp [toD]
    | _ => rw [e] at sk; simp [sameK] at sk
theorem eqOkA_mem {n : Nat} : ∀ {xs : List PV}, PV.eqOkA n xs = true → ∀ x ∈ xs, PV.eqOk n x = true
  | [], _, _, h => by simp at h
  | y :: ys, h, x, hx => by
    simp only [PV.eqOkA, Bool.and_eq_true] at h
    rcases List.mem_cons.mp hx with rfl | hx
    · exact h.1
    · exact eqOkA_mem h.2 x hx
section
variable {X : Cx} {pins : List (Addr × Obj)} {σ : L2.St} {H : Hp} {s : Shared} {G : Th} {F : Addr → Prop}
theorem each_of {ps : List PV} {xs : List V} {us : List Value} (I : Inv X pins σ H s) (h : PV.eqOkA 60 ps = true) (r : RpA G F H ps xs) (rv : Vals xs us) :
    EachIs (fun u (b : PV × V) => RelV b.2 u) us (ps.zip xs) ∧ EachIs (fun u (b : PV × V) => ∃ as, Reads s.heap u (toD b.1) as) us (ps.zip xs) := by
  induction ps generalizing xs us with
  | nil =>
    have e := r.inv0
    subst e
    cases rv
    exact ⟨.nil, .nil⟩
  | cons p ps ih =>
    obtain ⟨v, vs, rfl, r1, r2⟩ := r.inv
    cases rv with
    | cons q t =>
      simp only [PV.eqOkA, Bool.and_eq_true] at h
      obtain ⟨h1, h2⟩ := ih h.2 r2 t
      rw [List.zip_cons_cons]
      exact ⟨.cons q h1, .cons (Dp.reads I _ _ _ (dp_of 60 p v h.1 r1).1 q) h2⟩
theorem vals_of_each {us : List Value} {bs : List (PV × V)} (e : EachIs (fun u (b : PV × V) => RelV b.2 u) us bs) : Vals (bs.map Prod.snd) us := by
  induction e with
  | nil => exact .nil
  | cons h t ih => exact .cons h ih
theorem collect_tup {prog : Program} {w : World} {A : Around} {E : Value → Shared → Prop} {s : Shared} {l : Addr} {vs : List Value} {Q : List Value → Shared → Prop} (hl : s.heap.IsTuple l vs.toArray) (hsz : vs.length ≤ sizeLine)
    (h : Q vs { s with heap := (s.heap.push (seqObj "list" #[] 0)).update s.heap.objs.size (Obj.mapSeq (· ++ vs.toArray)) }) : wpAny (model prog w) A (collect (.ref l)) Q E s := by
  obtain ⟨o, ho, hc, n, hd⟩ := id hl
  unfold collect
  refine wpAny_bind (wpAny_runValue (codeAny_builtin entry_proto_collect' ?_))
  show wpAny _ _ (do again (.builtin "list.__iadd__" ⟨[← newList [], .ref l], []⟩)) _ _ s
  refine wpAny_bind (wpAny_newList (wpAny_pure ⟨Code.quiet_builtin _ (by decide +kernel), codeAny_builtin entry_list_iadd' ?_⟩))
  show wpAny _ _ (Builtin.List.listExtendWith (.ref s.heap.objs.size) (.ref l) (.ref s.heap.objs.size)) _ _ { s with heap := s.heap.push (seqObj "list" #[] 0) }
  unfold Builtin.List.listExtendWith
  have ho' : (s.heap.push (seqObj "list" #[] 0)).get? l = some o := Heap.get?_push_of_some _ ho
  refine wpAny_bind (wpAny_typeOf (T := "tuple") ⟨o, ho', hc⟩ ?_)
  have ht : (Value.type "tuple" == Value.type "tuple") = true := by rfl
  rw [if_pos (by rw [ht]; simp)]
  refine wpAny_bind (listItems_at ho' hd ?_)
  refine wpAny_bind (listItems_at (xs := #[]) (n := 0) (Heap.get?_push_size _ rfl) rfl ?_)
  rw [if_neg (by simp)]
  refine wpAny_bind (listUpdate_at (xs := #[]) (n := 0) (Heap.get?_push_size _ rfl) rfl ?_ (Nat.zero_le _) (by show (#[] ++ vs.toArray).size ≤ sizeLine + 1; simp only [Array.size_append, List.size_toArray, List.length_nil]; omega))
  refine wpAny_pure ?_
  show wpAny (model prog w) A (do
      let o ← load s.heap.objs.size
      match o.data with
      | .seq xs _ => pure xs.toList
      | _ => unsupported "internal:collect") Q E { s with heap := (s.heap.push (seqObj "list" #[] 0)).update s.heap.objs.size (Obj.mapSeq (· ++ vs.toArray)) }
  refine wpAny_bind (wpAny_load (get?_update_seq (Heap.get?_push_size _ rfl) _) ?_)
  show wpAny _ _ (pure ((#[] : Array Value) ++ vs.toArray).toList) Q E _
  rw [show ((#[] : Array Value) ++ vs.toArray).toList = vs by simp]
  exact wpAny_pure h
theorem sorted_tupV {prog : Program} {w : World} {A : Around} {E : Value → Shared → Prop} {s : Shared} {κ : PyProof.Rows.KeyKind} {l : Addr} {vs : List Value} {Q : Value → Shared → Prop} (hl : s.heap.IsTuple l vs.toArray) (S : SortsAt prog w A.in1.in1 { s with heap := sortingHeap (copyHeap s.heap vs) (s.heap.objs.size + 1) vs } κ vs) (hL : vs.length ≤ sizeLine)
    (h : Q (.ref (s.heap.objs.size + 1)) { s with heap := sortedAll s.heap vs (sortVals κ false vs vs).toArray }) : wpAny (model prog w) A (call (.builtin "sorted") [.ref l]) Q E s := by
  refine call_function_entry_kw kind_sorted plain_sorted entry_sorted (args_sorted1 _) ?_
  unfold Builtin.«sorted»
  refine wpAny_bind (m := checkCount "sorted" 1 1 _) (wpAny_pure ?_)
  refine wpAny_bind (collect_tup hl hL ?_)
  refine wpAny_bind (wpAny_newList ?_ hL)
  have hsz : ((s.heap.push (seqObj "list" #[] 0)).update s.heap.objs.size (Obj.mapSeq (· ++ vs.toArray))).objs.size = s.heap.objs.size + 1 := by
    rw [Heap.size_update, size_push']
  show wpAny _ _ _ _ _ { s with heap := copyHeap s.heap vs }
  rw [hsz]
  refine wpAny_bind (wpAny_holding (wpAny_call_entry_kw slot_list_sort ⟨_, copyHeap_at s.heap vs, rfl⟩ entry_list_sort ?body (args_list_sort _)))
  case body =>
    show wpAny (model prog w) A.in1.in1 (Builtin.«list.sort» ⟨[.ref (s.heap.objs.size + 1)], []⟩) _ _ _
    refine list_sort_vals (s := { s with heap := copyHeap s.heap vs }) (copyHeap_at s.heap vs) S hL ?_
    exact ⟨_, rfl, wpAny_pure ⟨_, rfl, h⟩⟩
theorem sorted_tupData {prog : Program} {w : World} {A : Around} {E : Value → Shared → Prop} {s : Shared} {β : Type} {vs : List Value} {bs : List β} {enc : β → PyData} {R : Value → β → Prop} {l : Addr} {Q : Value → Shared → Prop} (hl : s.heap.IsTuple l vs.toArray) (e : EachIs R vs bs) (er : EachIs (fun v b => ∃ as, Reads s.heap v (enc b) as) vs bs) (hal : AllAlike (bs.map enc)) (hk : Sortable (bs.map enc)) (hL : bs.length ≤ sizeLine)
    (hu : ∀ b, b ∈ bs → A.units + 2 + (enc b).depth < cLine) (h : ∀ out, out.length = bs.length → EachIs R out (bs.mergeSort (dataLe false enc)) → Q (.ref (s.heap.objs.size + 1)) { s with heap := sortedAll s.heap vs (List.toArray out) }) :
    wpAny (model prog w) A (call (.builtin "sorted") [.ref l]) Q E s := by
  have er' : EachIs (fun v b => ∃ as, Reads (sortingHeap (copyHeap s.heap vs) (s.heap.objs.size + 1) vs) v (enc b) as) vs bs := er.mono fun _ _ ⟨as, r⟩ => ⟨as, PyProof.Rows.Reads.keeps (fun _ _ => sorting_copy_old) r⟩
  exact sorted_tupV hl (SortsAt.data (s := { s with heap := sortingHeap (copyHeap s.heap vs) (s.heap.objs.size + 1) vs }) (each_map (R := fun v d => ∃ as, Reads (sortingHeap (copyHeap s.heap vs) (s.heap.objs.size + 1) vs) v d as) enc er') hal hk (bound_map hu)) (by rw [e.length]; exact hL)
    (h _ (by rw [sortVals_length false rfl]; exact e.length) (sortVals_data false e er' hal))
end
def rSortD (K : PySem.W.Frag) : List V → Hp → VK → Prop := fun vs H Q => ∃ (a : Addr) (xs : List V) (ps : List PV) (G : Th) (F : Addr → Prop), vs = [V.ref a] ∧ (SqL K H a xs ∨ SqT K H a xs) ∧ canSort ps = true ∧ RpA G F H ps xs ∧
  ∀ p, H p = none → Q (.ref p) (upd H p (.lst ((sortedB ps xs).map Prod.snd)))
theorem cr_sortD {X : Cx} (hu : X.A.units + 65 < cLine) : CallR X (.builtin "sorted") (rSortD X.K) := by
  intro pins s σ H vs us Q I r h
  obtain ⟨a, xs, ps, G, F, rfl, hs, hc, ra, q⟩ := h
  have hal : alikeP ps = true := by unfold canSort at hc; simp only [Bool.and_eq_true] at hc; exact hc.1
  have hok : PV.eqOkA 60 ps = true := by unfold alikeP at hal; simp only [Bool.and_eq_true] at hal; exact hal.2
  have h1 : AllAlike ((ps.zip xs).map fun b : PV × V => toD b.1) := by
    intro d hd d' hd'
    obtain ⟨b, hb, rfl⟩ := List.mem_map.mp hd
    obtain ⟨b', hb', rfl⟩ := List.mem_map.mp hd'
    exact alike_of _ _ (alikeP_same hal _ (List.of_mem_zip hb).1 _ (List.of_mem_zip hb').1)
  have h3 : ∀ b, b ∈ ps.zip xs → X.A.units + 2 + (toD b.1).depth < cLine := by
    intro b hb
    obtain ⟨_, _, d3⟩ := dp_of (K := X.K) 60 b.1 b.2 (eqOkA_mem hok _ (List.of_mem_zip hb).1) (rpA_zip ra b hb)
    omega
  have fin : ∀ (its out : List Value), xs.length ≤ sizeLine → EachIs (fun u (b : PV × V) => RelV b.2 u) out ((ps.zip xs).mergeSort (dataLe false fun b => toD b.1)) →
      EP X pins σ Q (.ref (s.heap.objs.size + 1)) { s with heap := sortedAll s.heap its (List.toArray out) } := fun its out hz eo => by
    obtain ⟨ep, he'⟩ := PyProof.Rows.sortedAll_at s.heap its out.toArray
    have hlen : ((sortedB ps xs).map Prod.snd).length ≤ sizeLine := by rw [sortedB_len ra.length]; exact hz
    exact ⟨.ref _, upd H (s.heap.objs.size + 1) (.lst ((sortedB ps xs).map Prod.snd)), I.laid (t' := s.toks) (fun _ _ => PyProof.Rows.sortedAll_old) (Nat.le_succ _) ⟨hlen, out, ep, vals_of_each eo, he'⟩, rfl, q _ (I.hok.fresh (Nat.le_succ _))⟩
  rw [Vals.ref1 r]
  rcases hs with hs | hs
  · obtain ⟨its, rv, hl, hz⟩ := I.list hs
    obtain ⟨e1, e2⟩ := each_of I hok ra rv
    exact sorted_data (enc := fun b : PV × V => toD b.1) hl.isList e1 e2 h1 (sortable_of hc) (by rw [List.length_zip]; have := ra.length; omega) h3 fun out ho eo => fin its out hz eo
  · obtain ⟨its, rv, hl, hz⟩ := I.tuple hs
    obtain ⟨e1, e2⟩ := each_of I hok ra rv
    exact sorted_tupData (enc := fun b : PV × V => toD b.1) hl e1 e2 h1 (sortable_of hc) (by rw [List.length_zip]; have := ra.length; omega) h3 fun out ho eo => fin its out hz eo
end Pu
end

section
set_option Elab.async false
set_option linter.all false
set_option maxRecDepth 100000
namespace Pu
open PySem PySem.Spec PyProof.Rows L2 PySem.W

section
variable {G : Th} {F : Addr → Prop} {H : Hp} {K : PySem.W.Frag}
theorem rp_lst {ps : List PV} {x : V} (r : Rp G F H (.lst ps) x) : ∃ a vs, x = .ref a ∧ H a = some (.lst vs) ∧ SqL K H a vs ∧ vs.length ≤ sizeLine ∧ RpA G F H ps vs := by
  unfold Rp at r
  obtain ⟨a, vs, e, f, h, z, ra⟩ := r
  exact ⟨a, vs, e, h, SqL.of h, z, ra⟩
theorem rp_tup {ps : List PV} {x : V} (r : Rp G F H (.tup ps) x) : ∃ a vs, x = .ref a ∧ H a = some (.tup vs) ∧ SqT K H a vs ∧ vs.length ≤ sizeLine ∧ RpA G F H ps vs := by
  unfold Rp at r
  obtain ⟨a, vs, e, f, h, z, ra⟩ := r
  exact ⟨a, vs, e, h, SqT.of h, z, ra⟩
theorem rp_scr {ps : List PV} {x : V} (r : Rp G F H (.scr ps) x) : ∃ a vs, x = .ref a ∧ SqL K H a vs ∧ vs.length ≤ sizeLine ∧ RpA G F H ps vs := by
  unfold Rp at r
  obtain ⟨a, vs, o, e, f, h, z, ra⟩ := r
  exact ⟨a, vs, e, .inl (.inr ⟨o, h⟩), z, ra⟩
theorem bools_of : ∀ {ps : List PV} {bs : List Bool} {xs : List V}, boolsOf ps = some bs → RpA G F H ps xs → xs = bs.map V.bl
  | [], bs, xs, h, r => by
    unfold boolsOf at h; cases h; rw [r.inv0]; rfl
  | p :: ps, bs, xs, h, r => by
    obtain ⟨v, vs, rfl, r1, r2⟩ := r.inv
    unfold boolsOf at h
    split at h
    · rename_i e; cases e
    · rename_i b _ e
      cases e
      cases hb : boolsOf ps with
      | none => rw [hb] at h; cases h
      | some bs' =>
        rw [hb] at h; cases h
        rw [bools_of hb r2]
        unfold Rp at r1; rw [r1]; rfl
    · cases h
theorem ints_of : ∀ {ps : List PV} {bs : List Int} {xs : List V}, intsOf ps = some bs → RpA G F H ps xs → xs = bs.map V.int
  | [], bs, xs, h, r => by
    unfold intsOf at h; cases h; rw [r.inv0]; rfl
  | p :: ps, bs, xs, h, r => by
    obtain ⟨v, vs, rfl, r1, r2⟩ := r.inv
    unfold intsOf at h
    split at h
    · rename_i e; cases e
    · rename_i b _ e
      cases e
      cases hb : intsOf ps with
      | none => rw [hb] at h; cases h
      | some bs' =>
        rw [hb] at h; cases h
        rw [ints_of hb r2]
        unfold Rp at r1; rw [r1]; rfl
    · cases h
end
mutual
theorem toD_inj : ∀ (n m : Nat) (p q : PV), PV.eqOk n p = true → PV.eqOk m q = true → toD p = toD q → p = q
  | n, m, .non, q, _, hq, e => by cases q <;> first | (simp [PV.eqOk] at hq; done) | rfl | (simp [toD] at e; done)
  | n, m, .bl _, q, _, hq, e => by cases q <;> first | (simp [PV.eqOk] at hq; done) | (simp [toD] at e; done) | (simp [toD] at e; rw [e])
  | n, m, .int _, q, _, hq, e => by cases q <;> first | (simp [PV.eqOk] at hq; done) | (simp [toD] at e; done) | (simp [toD] at e; rw [e])
  | n, m, .str s, q, _, hq, e => by cases q <;> first | (simp [PV.eqOk] at hq; done) | (simp [toD] at e; done) | (simp [toD] at e; rw [strV_inj.mp e])
  | 0, m, .tup ps, q, h, _, _ => by simp [PV.eqOk] at h
  | 0, m, .lst ps, q, h, _, _ => by simp [PV.eqOk] at h
  | n + 1, m, .tup ps, q, h, hq, e => by
    cases q with
    | tup qs =>
      cases m with
      | zero => simp [PV.eqOk] at hq
      | succ m =>
        simp only [toD, PyData.tuple.injEq] at e
        rw [toDA_inj n m ps qs (by simpa [PV.eqOk] using h) (by simpa [PV.eqOk] using hq) e]
    | _ => first | (simp [PV.eqOk] at hq; done) | (simp [toD] at e; done)
  | n + 1, m, .lst ps, q, h, hq, e => by
    cases q with
    | lst qs =>
      cases m with
      | zero => simp [PV.eqOk] at hq
      | succ m =>
        simp only [toD, PyData.list.injEq] at e
        rw [toDA_inj n m ps qs (by simpa [PV.eqOk] using h) (by simpa [PV.eqOk] using hq) e]
    | _ => first | (simp [PV.eqOk] at hq; done) | (simp [toD] at e; done)
  | n, m, .dic _ _ _, q, h, _, _ => by simp [PV.eqOk] at h
  | n, m, .scr _, q, h, _, _ => by simp [PV.eqOk] at h
  | n, m, .fn _, q, h, _, _ => by simp [PV.eqOk] at h
theorem toDA_inj : ∀ (n m : Nat) (ps qs : List PV), PV.eqOkA n ps = true → PV.eqOkA m qs = true → toDA ps = toDA qs → ps = qs
  | n, m, [], [], _, _, _ => rfl
  | n, m, [], q :: qs, _, _, e => by simp [toDA] at e
  | n, m, p :: ps, [], _, _, e => by simp [toDA] at e
  | n, m, p :: ps, q :: qs, h, k, e => by
    simp only [PV.eqOkA, Bool.and_eq_true] at h k
    simp only [toDA, List.cons.injEq] at e
    rw [toD_inj n m p q h.1 k.1 e.1, toDA_inj n m ps qs h.2 k.2 e.2]
end
theorem toD_ne {p : PV} (h : sameK p p = true) : toD p ≠ .none := by cases p <;> simp [sameK] at h <;> simp [toD]
theorem maxD_of : ∀ {xs : List PV} {x : PV}, (∀ a ∈ x :: xs, ∀ b ∈ x :: xs, sameK a b = true) → maxD (toD x) (toDA xs) = toD (xs.foldl (fun a y => if plt a y then y else a) x) ∧ xs.foldl (fun a y => if plt a y then y else a) x ∈ x :: xs
  | [], x, _ => by unfold toDA maxD; simp
  | y :: ys, x, h => by
    have e : dataLt (toD x) (toD y) = plt x y := dataLt_of x y (h x (by simp) y (by simp))
    unfold toDA maxD
    rw [List.foldl_cons, List.foldl_cons, e]
    cases c : plt x y with
    | true =>
      rw [if_pos rfl, if_pos rfl]
      have ih := maxD_of (xs := ys) (x := y) fun a ha b hb => h a (List.mem_cons_of_mem _ ha) b (List.mem_cons_of_mem _ hb)
      exact ⟨ih.1, List.mem_cons_of_mem _ ih.2⟩
    | false =>
      rw [if_neg (by simp), if_neg (by simp)]
      have sub : ∀ a ∈ x :: ys, a ∈ x :: y :: ys := fun a ha => by
        rcases List.mem_cons.mp ha with rfl | ha
        · exact List.mem_cons_self
        · exact List.mem_cons_of_mem _ (List.mem_cons_of_mem _ ha)
      have ih := maxD_of (xs := ys) (x := x) fun a ha b hb => h a (sub a ha) b (sub b hb)
      exact ⟨ih.1, sub _ ih.2⟩
theorem minD_of : ∀ {xs : List PV} {x : PV}, (∀ a ∈ x :: xs, ∀ b ∈ x :: xs, sameK a b = true) → minD (toD x) (toDA xs) = toD (xs.foldl (fun a y => if plt y a then y else a) x) ∧ xs.foldl (fun a y => if plt y a then y else a) x ∈ x :: xs
  | [], x, _ => by unfold toDA minD; simp
  | y :: ys, x, h => by
    have e : dataLt (toD y) (toD x) = plt y x := dataLt_of y x (h y (by simp) x (by simp))
    unfold toDA minD
    rw [List.foldl_cons, List.foldl_cons, e]
    cases c : plt y x with
    | true =>
      rw [if_pos rfl, if_pos rfl]
      have ih := minD_of (xs := ys) (x := y) fun a ha b hb => h a (List.mem_cons_of_mem _ ha) b (List.mem_cons_of_mem _ hb)
      exact ⟨ih.1, List.mem_cons_of_mem _ ih.2⟩
    | false =>
      rw [if_neg (by simp), if_neg (by simp)]
      have sub : ∀ a ∈ x :: ys, a ∈ x :: y :: ys := fun a ha => by
        rcases List.mem_cons.mp ha with rfl | ha
        · exact List.mem_cons_self
        · exact List.mem_cons_of_mem _ (List.mem_cons_of_mem _ ha)
      have ih := minD_of (xs := ys) (x := x) fun a ha b hb => h a (sub a ha) b (sub b hb)
      exact ⟨ih.1, sub _ ih.2⟩
section
variable {X : Cx}
/-- max, min of a list of things alike -/
def rBest (K : PySem.W.Frag) (best : PV → List PV → PV) : List V → Hp → VK → Prop := fun vs H Q => ∃ (a : Addr) (xs : List V) (p : PV) (ps : List PV) (G : Th) (F : Addr → Prop), vs = [V.ref a] ∧ SqL K H a xs ∧ alikeP (p :: ps) = true ∧ RpA G F H (p :: ps) xs ∧
  ∀ z, Rp G F H (best p ps) z → Q z H
theorem best_fin {pins : List (Addr × Obj)} {σ : L2.St} {H : Hp} {s : Shared} {Q : VK} {ps : List PV} {xs : List V} {its : List Value} {G : Th} {F : Addr → Prop} {i : Nat} {v : Value} {h' : Heap} {tk : Nat} {bs : List Addr} {b : PV}
    (I : Inv X pins σ H s) (hok : PV.eqOkA 60 ps = true) (ra : RpA G F H ps xs) (rv : Vals xs its) (hv : its[i]? = some v) (hr : Reads h' v (toD b) bs) (kk : ∀ b o, s.heap.get? b = some o → h'.get? b = some o) (hb : b ∈ ps)
    (q : ∀ z, Rp G F H b z → Q z H) : EP X pins σ Q v { s with heap := h', toks := tk } := by
  have l1 := rv.length
  have l2 := ra.length
  have hi : i < its.length := by
    by_cases h : i < its.length
    · exact h
    · rw [List.getElem?_eq_none (by omega)] at hv; cases hv
  obtain ⟨p, hp⟩ : ∃ p, ps[i]? = some p := ⟨ps[i]'(by omega), List.getElem?_eq_getElem (by omega)⟩
  obtain ⟨z, hz, rz⟩ := ra.get hp
  obtain ⟨u, hu, ru⟩ := rv.get hz
  rw [hv] at hu; cases hu
  have I' : Inv X pins σ H { s with heap := h', toks := tk } := I.kept kk
  have mp := eqOkA_mem hok p (List.mem_of_getElem? hp)
  have dp := dp_of (K := X.K) 60 p z mp rz
  obtain ⟨as, r1⟩ := Dp.reads I' _ _ _ dp.1 ru
  have e := (PyProof.Rows.reads_det (fun _ _ e _ => e) r1 hr).1
  have e2 : b = p := toD_inj 60 60 b p (eqOkA_mem hok b hb) mp e
  subst e2
  exact ⟨z, H, I', ru, q z rz⟩
theorem cr_maxD (hc : X.calm = true) (hu : X.A.units + 65 < cLine) : CallR X (.builtin "max") (rBest X.K fun x xs => xs.foldl (fun a y => if plt a y then y else a) x) := by
  intro pins s σ H vs us Q I r h
  obtain ⟨a, xs, p, ps, G, F, rfl, hs, hal, ra, q⟩ := h
  have hok : PV.eqOkA 60 (p :: ps) = true := by unfold alikeP at hal; simp only [Bool.and_eq_true] at hal; exact hal.2
  obtain ⟨its, rv, hl, _⟩ := I.list hs
  rw [Vals.ref1 r]
  obtain ⟨d1, _, d3⟩ := dpA_of (K := X.K) 60 (p :: ps) xs hok ra
  obtain ⟨as, hr⟩ := Dp.readsAll I _ _ _ d1 rv
  obtain ⟨m1, m2⟩ := maxD_of (alikeP_same hal)
  unfold toDA at hr d3
  refine max_list_data (I.ok.hd hc) hl.isList (by simpa using hr) ?_ (by omega) fun i v h' tk bs hv hr' kk => ?_
  · refine ⟨fun d hd d' hd' => ?_, fun d hd => ?_⟩
    · have e : toD p :: toDA ps = (p :: ps).map toD := by rw [← toDA_map]; simp [toDA]
      rw [e] at hd hd'
      obtain ⟨b, hb, rfl⟩ := List.mem_map.mp hd
      obtain ⟨b', hb', rfl⟩ := List.mem_map.mp hd'
      exact alike_of _ _ (alikeP_same hal _ hb _ hb')
    · have e : toD p :: toDA ps = (p :: ps).map toD := by rw [← toDA_map]; simp [toDA]
      rw [e] at hd
      obtain ⟨b, hb, rfl⟩ := List.mem_map.mp hd
      exact toD_ne (alikeP_same hal _ hb _ hb)
  · rw [m1] at hr'
    exact best_fin I hok ra rv (by simpa using hv) hr' kk m2 q
theorem cr_minD (hc : X.calm = true) (hu : X.A.units + 65 < cLine) : CallR X (.builtin "min") (rBest X.K fun x xs => xs.foldl (fun a y => if plt y a then y else a) x) := by
  intro pins s σ H vs us Q I r h
  obtain ⟨a, xs, p, ps, G, F, rfl, hs, hal, ra, q⟩ := h
  have hok : PV.eqOkA 60 (p :: ps) = true := by unfold alikeP at hal; simp only [Bool.and_eq_true] at hal; exact hal.2
  obtain ⟨its, rv, hl, _⟩ := I.list hs
  rw [Vals.ref1 r]
  obtain ⟨d1, _, d3⟩ := dpA_of (K := X.K) 60 (p :: ps) xs hok ra
  obtain ⟨as, hr⟩ := Dp.readsAll I _ _ _ d1 rv
  obtain ⟨m1, m2⟩ := minD_of (alikeP_same hal)
  unfold toDA at hr d3
  refine min_list_data (I.ok.hd hc) hl.isList (by simpa using hr) ?_ (by omega) fun i v h' tk bs hv hr' kk => ?_
  · refine ⟨fun d hd d' hd' => ?_, fun d hd => ?_⟩
    · have e : toD p :: toDA ps = (p :: ps).map toD := by rw [← toDA_map]; simp [toDA]
      rw [e] at hd hd'
      obtain ⟨b, hb, rfl⟩ := List.mem_map.mp hd
      obtain ⟨b', hb', rfl⟩ := List.mem_map.mp hd'
      exact alike_of _ _ (alikeP_same hal _ hb _ hb')
    · have e : toD p :: toDA ps = (p :: ps).map toD := by rw [← toDA_map]; simp [toDA]
      rw [e] at hd
      obtain ⟨b, hb, rfl⟩ := List.mem_map.mp hd
      exact toD_ne (alikeP_same hal _ hb _ hb)
  · rw [m1] at hr'
    exact best_fin I hok ra rv (by simpa using hv) hr' kk m2 q
end
end Pu
end

section
set_option Elab.async false
set_option linter.all false
set_option maxRecDepth 100000
namespace Pu
open PySem PySem.Spec PyProof.Rows L2 PySem.W

def b1V : B1 → Value
  | .abs => .builtin "abs" | .all => .builtin "all" | .any => .builtin "any" | .dict _ => .type "dict" | .int => .type "int" | .len => .builtin "len" | .list => .type "list"
  | .max => .builtin "max" | .min => .builtin "min" | .repr => .builtin "repr" | .sorted => .builtin "sorted" | .sortedSet => .builtin "sorted" | .str => .type "str" | .sum => .builtin "sum" | .tuple => .type "tuple"
def b2V : B2 → Value
  | .max2 => .builtin "max" | .min2 => .builtin "min"
def rB1 (K : PySem.W.Frag) : B1 → List V → Hp → VK → Prop
  | .abs => fun xs H Q => ∃ i, xs = [.int i] ∧ Q (.int (if i < 0 then -i else i)) H
  | .all => rAll K
  | .any => rAny K
  | .int => fun xs H Q => (∃ i, xs = [.int i] ∧ Q (.int i) H) ∨ ∃ k, xs = [.bl k] ∧ Q (.int (if k then 1 else 0)) H
  | .len => fun xs H Q => (∃ x n, xs = [x] ∧ LenV K x H n ∧ Q (.int n) H) ∨ (∃ a kvs, xs = [V.ref a] ∧ H a = some (.dK kvs) ∧ Q (.int kvs.length) H) ∨ rLenT xs H Q
  | .list => fun xs H Q => ∃ p ys, xs = [.ref p] ∧ (SqL K H p ys ∨ SqT K H p ys) ∧ ∀ l, H l = none → Q (.ref l) (upd H l (.lst ys))
  | .tuple => fun xs H Q => ∃ p ys, xs = [.ref p] ∧ ((SqL K H p ys ∧ ∀ l, H l = none → Q (.ref l) (upd H l (.tup ys))) ∨ (SqT K H p ys ∧ Q (.ref p) H))
  | .sum => rSum K
  | .max => rBest K fun x xs => xs.foldl (fun a y => if plt a y then y else a) x
  | .min => rBest K fun x xs => xs.foldl (fun a y => if plt y a then y else a) x
  | .sorted => rSortD K
  | _ => fun _ _ _ => False
theorem call_no {X : Cx} {f : Value} : CallR X f fun _ _ _ => False := fun _ _ _ _ _ _ _ _ _ h => h.elim
theorem call_b1 {X : Cx} (hc : X.calm = true) (hu : X.A.units + 65 < cLine) (f : B1) : CallR X (b1V f) (rB1 X.K f) := by
  cases f with
  | abs => exact call_abs
  | all => exact cr_all hc
  | any => exact cr_any hc
  | int => exact call_int1
  | len => exact call_len.or (call_lenD.or call_len_dT)
  | list => exact call_list_of
  | tuple => exact call_tuple_of
  | sum => exact cr_sum hc
  | max => exact cr_maxD hc hu
  | min => exact cr_minD hc hu
  | sorted => exact cr_sortD hu
  | _ => exact call_no
section
variable {G : Th} {P F : Addr → Prop} {H : Hp} {Q : VK} {K : PySem.W.Frag} {X : Cx}
theorem omap {α β : Type} {o : Option α} {f : α → β} {b : β} (h : o.map f = some b) : ∃ a, o = some a ∧ b = f a := by
  cases o with
  | none => cases h
  | some a => cases h; exact ⟨a, rfl, rfl⟩
theorem ok_b1 {f : B1} {p v : PV} {x : V} (pr : Pre G P F H) (rx : Rp G F H p x) (hv : b1 f p = some v) (h : ResB G P F H v Q) : rB1 K f [x] H Q := by
  unfold b1 at hv
  cases f <;> dsimp only at hv
  · unfold absP at hv; split at hv
    · cases hv; unfold Rp at rx; subst rx; exact ⟨_, rfl, (h.val rfl).int pr⟩
    · cases hv
  · unfold allP at hv; split at hv
    · obtain ⟨bs, hb, rfl⟩ := omap hv
      obtain ⟨a, vs, rfl, _, hs, _, ra⟩ := rp_lst (K := K) rx
      rw [bools_of hb ra] at hs
      exact ⟨a, bs, rfl, hs, (h.val rfl).bl pr⟩
    · cases hv
  · unfold anyP at hv; split at hv
    · obtain ⟨bs, hb, rfl⟩ := omap hv
      obtain ⟨a, vs, rfl, _, hs, _, ra⟩ := rp_lst (K := K) rx
      rw [bools_of hb ra] at hs
      exact ⟨a, bs, rfl, hs, (h.val rfl).bl pr⟩
    · cases hv
  · cases hv
  · unfold intP at hv; split at hv
    · cases hv; unfold Rp at rx; subst rx; exact .inl ⟨_, rfl, (h.val rfl).int pr⟩
    · cases hv; unfold Rp at rx; subst rx; exact .inr ⟨_, rfl, (h.val rfl).int pr⟩
    · cases hv
  · unfold lenP at hv; split at hv
    · cases hv; unfold Rp at rx; obtain ⟨rfl, _, z⟩ := rx
      exact .inl ⟨_, _, rfl, ⟨by rw [str_len]; exact z, by rw [str_len]⟩, (h.val rfl).int pr⟩
    · cases hv
      obtain ⟨a, vs, rfl, _, hs, _, ra⟩ := rp_lst (K := K) rx
      exact .inl ⟨_, _, rfl, .inl ⟨vs, hs, ra.length⟩, (h.val rfl).int pr⟩
    · cases hv
      obtain ⟨a, vs, rfl, _, hs, _, ra⟩ := rp_tup (K := K) rx
      exact .inl ⟨_, _, rfl, .inr ⟨vs, hs, ra.length⟩, (h.val rfl).int pr⟩
    · cases hv
      obtain ⟨a, vs, rfl, hs, _, ra⟩ := rp_scr (K := K) rx
      exact .inl ⟨_, _, rfl, .inl ⟨vs, hs, ra.length⟩, (h.val rfl).int pr⟩
    · cases hv
      have h := h.val rfl
      obtain ⟨a, rfl, f, hd⟩ := dic_of rx
      rcases hd with ⟨rfl, ms, vs, ha, l, z, hk, ra⟩ | ⟨rfl, ms, vs, ha, l, z, hk, ra⟩
      · have e := congrArg List.length hk
        simp only [List.length_map] at e
        rw [e] at h
        have e2 : (ms.zip vs).length = ms.length := by rw [List.length_zip, ← l, Nat.min_self]
        exact .inr (.inl ⟨a, _, rfl, ha, by rw [e2]; exact h.int pr⟩)
      · have e := congrArg List.length hk
        simp only [List.length_map] at e
        rw [e] at h
        have e2 : (ms.zip vs).length = ms.length := by rw [List.length_zip, ← l, Nat.min_self]
        exact .inr (.inr ⟨a, _, rfl, ha, by rw [e2]; exact h.int pr⟩)
    · cases hv
  · unfold listP at hv; split at hv
    · cases hv
      obtain ⟨a, vs, rfl, _, hs, z, ra⟩ := rp_lst (K := K) rx
      exact ⟨a, vs, rfl, .inl hs, h.lst pr ra z⟩
    · cases hv
      obtain ⟨a, vs, rfl, _, hs, z, ra⟩ := rp_tup (K := K) rx
      exact ⟨a, vs, rfl, .inr hs, h.lst pr ra z⟩
    · cases hv
  · unfold maxP at hv; split at hv
    · unfold pmax at hv; split at hv
      · cases hv
      · obtain ⟨c, e⟩ := rp_some hv
        obtain ⟨a, vs, rfl, _, hs, z, ra⟩ := rp_lst (K := K) rx
        refine ⟨a, vs, _, _, G, F, rfl, hs, c, ra, fun z rz => ?_⟩
        dsimp only at rz
        rw [e] at rz
        unfold ResB at h
        split at h
        · rename_i hob
          have := alikeP_same c
          have hm := (maxD_of this).2
          rw [e] at hm
          have sk := this _ hm _ hm
          cases v <;> simp [isObjV] at hob <;> simp [sameK] at sk
        · exact h.here pr rz
    · cases hv
  · unfold minP at hv; split at hv
    · unfold pmin at hv; split at hv
      · cases hv
      · obtain ⟨c, e⟩ := rp_some hv
        obtain ⟨a, vs, rfl, _, hs, z, ra⟩ := rp_lst (K := K) rx
        refine ⟨a, vs, _, _, G, F, rfl, hs, c, ra, fun z rz => ?_⟩
        dsimp only at rz
        rw [e] at rz
        unfold ResB at h
        split at h
        · rename_i hob
          have := alikeP_same c
          have hm := (minD_of this).2
          rw [e] at hm
          have sk := this _ hm _ hm
          cases v <;> simp [isObjV] at hob <;> simp [sameK] at sk
        · exact h.here pr rz
    · cases hv
  · cases hv
  · unfold sortedP at hv; split at hv
    · obtain ⟨c, rfl⟩ := rp_some hv
      obtain ⟨a, vs, rfl, _, hs, z, ra⟩ := rp_lst (K := K) rx
      have hal := by have c' := c; unfold canSort at c'; simp only [Bool.and_eq_true] at c'; exact c'.1
      exact ⟨a, vs, _, G, F, rfl, .inl hs, c, ra, h.lst pr (sortedB_rp ra hal) (by rw [sortedB_len ra.length]; exact z)⟩
    · obtain ⟨c, rfl⟩ := rp_some hv
      obtain ⟨a, vs, rfl, _, hs, z, ra⟩ := rp_tup (K := K) rx
      have hal := by have c' := c; unfold canSort at c'; simp only [Bool.and_eq_true] at c'; exact c'.1
      exact ⟨a, vs, _, G, F, rfl, .inr hs, c, ra, h.lst pr (sortedB_rp ra hal) (by rw [sortedB_len ra.length]; exact z)⟩
    · cases hv
  · cases hv
  · cases hv
  · unfold sumP at hv; split at hv
    · obtain ⟨ns, hb, rfl⟩ := omap hv
      obtain ⟨a, vs, rfl, _, hs, _, ra⟩ := rp_lst (K := K) rx
      rw [ints_of hb ra] at hs
      exact ⟨a, ns, rfl, hs, (h.val rfl).int pr⟩
    · cases hv
  · unfold tupleP at hv; split at hv
    · cases hv
      obtain ⟨a, vs, rfl, _, hs, z, ra⟩ := rp_lst (K := K) rx
      exact ⟨a, vs, rfl, .inl ⟨hs, (h.val rfl).tup pr ra z⟩⟩
    · cases hv
      have rx' := rx
      obtain ⟨a, vs, rfl, _, hs, z, ra⟩ := rp_tup (K := K) rx
      exact ⟨a, vs, rfl, .inr ⟨hs, (h.val rfl).here pr rx'⟩⟩
    · cases hv
def rB2 : B2 → List V → Hp → VK → Prop
  | .max2 => fun xs H Q => ∃ i j, xs = [.int i, .int j] ∧ Q (.int (if j > i then j else i)) H
  | .min2 => fun xs H Q => ∃ i j, xs = [.int i, .int j] ∧ Q (.int (if j < i then j else i)) H
theorem call_b2 (hc : X.calm = true) (f : B2) : CallR X (b2V f) (rB2 f) := by
  cases f with
  | max2 => exact call_max2 hc
  | min2 => exact call_min2 hc
theorem ok_b2 {f : B2} {p q v : PV} {x y : V} (pr : Pre G P F H) (rx : Rp G F H p x) (ry : Rp G F H q y) (hv : b2 f p q = some v) (h : ResB G P F H v Q) : rB2 f [x, y] H Q := by
  unfold b2 at hv
  split at hv
  · cases hv
    unfold Rp at rx ry; subst rx ry
    cases f
    · exact ⟨_, _, rfl, (h.val rfl).int pr⟩
    · exact ⟨_, _, rfl, (h.val rfl).int pr⟩
  · cases hv

end
/-! ### subscripts -/
theorem sub_tail {prog : Program} {w : World} {A : Around} {E : Value → Shared → Prop} {s : Shared} {value slice : Expr} {o i : Value} {T id : String} {Q : Value → Shared → Prop} (hT : s.TypeIs o T)
    (hl : typeLookup (.type T) "__getitem__" = pure (some (.builtin id))) (h : wpAny (model prog w) A (getItem o i) Q E s) (hs : subscripted slice false o i = operate [o, i] (getItem o i)) :
    wpAny (model prog w) A (subscriptTail value slice o i) Q E s := by
  unfold subscriptTail
  refine wpAny_bind ?_
  rw [getitemInPython_of_ne hT.not_modules]
  refine wpAny_bind (wpAny_specialOf hT hl ?_)
  have fin : wpAny (model prog w) A (subscripted slice false o i) (fun r s₃ => wpAny (model prog w) A (letTemporaryGo value o r >>= fun _ => pure r) Q E s₃) E s := by
    rw [hs]
    exact wpAny_operating (wpAny_mono h (fun r s₃ h₃ => wpAny_bind (wpAny_letTemporaryGo (wpAny_pure h₃))) fun _ _ x => x)
  first
    | exact wpAny_pure (wpAny_bind fin)
    | exact wpAny_bind (wpAny_pure (wpAny_bind fin))
    | exact wpAny_bind fin
section
variable {G : Th} {P F : Addr → Prop} {H : Hp} {Q : VK} {X : Cx}
def rIxD : R2 := fun x y H Q => ∃ a v, x = .ref a ∧ DGet H a y (some v) ∧ Q v H
theorem ix_dict (hu : X.A.units + 1 < cLine) : IxR X rIxD := by
  intro value slice pins s σ H x y v u Q I rx ry h hs
  obtain ⟨a, z, rfl, g, q⟩ := h
  cases rx
  refine sub_tail (dict_typeIs I g) PySem.F.slot_dict_getitem.lookup ?_ hs
  exact d_getItem hu I g ry fun w' s3 I3 rw' => ⟨z, H, I3, rw', q⟩
def rIxA (K : PySem.W.Frag) : R2 := fun x y H Q => rIx K x y H Q ∨ rIxD x y H Q
theorem ix_any (hu : X.A.units + 1 < cLine) : IxR X (rIxA X.K) := ix_seq.or (ix_dict hu)
theorem at_get {ps : List PV} {vs : List V} {i : Int} {p : PV} (h : at_ ps i = some p) (ra : RpA G F H ps vs) : ∃ v, atI vs i = some v ∧ Rp G F H p v := by
  unfold at_ at h
  cases hp : place ps.length i with
  | none => rw [hp] at h; cases h
  | some j =>
    rw [hp] at h
    obtain ⟨v, hv, rv⟩ := ra.get (show ps[j]? = some p from h)
    refine ⟨v, ?_, rv⟩
    unfold atI
    have : ixN vs.length i = some j := by rw [← ra.length]; exact hp
    rw [this]; exact hv
theorem ok_ix {K : PySem.W.Frag} {p q v : PV} {x y : V} (rx : Rp G F H p x) (ry : Rp G F H q y) (hv : index p q = some v) (h : ∀ z, Rp G F H v z → Q z H) : rIxA K x y H Q := by
  unfold index at hv
  split at hv
  · obtain ⟨a, vs, rfl, _, hs, _, ra⟩ := rp_lst (K := K) rx
    unfold Rp at ry; subst ry
    obtain ⟨z, hz, rz⟩ := at_get hv ra
    exact .inl (.inl ⟨a, vs, _, z, rfl, rfl, hs, hz, h z rz⟩)
  · obtain ⟨a, vs, rfl, _, hs, _, ra⟩ := rp_tup (K := K) rx
    unfold Rp at ry; subst ry
    obtain ⟨z, hz, rz⟩ := at_get hv ra
    exact .inl (.inr (.inl ⟨a, vs, _, z, rfl, rfl, hs, hz, h z rz⟩))
  · obtain ⟨c, hc, rfl⟩ := omap hv
    unfold Rp at rx ry; obtain ⟨rfl, so, l⟩ := rx; subst ry
    rename_i s i
    refine .inl (.inr (.inr ⟨_, _, c, rfl, rfl, by rw [str_len]; exact l, ?_, h _ (rp_str ?_ (by show 1 ≤ sizeLine; rw [sizeLine_eq]; omega))⟩))
    · unfold strV; show atI s i = some c; exact hc
    · unfold at_ at hc
      cases hp : place s.length i with
      | none => rw [hp] at hc; cases hc
      | some j =>
        rw [hp] at hc
        have m : c ∈ s := List.mem_of_getElem? (show s[j]? = some c from hc)
        unfold PyData.strOk strV at so ⊢
        simp only [List.all_toArray, List.all_eq_true] at so ⊢
        intro d hd
        rw [List.mem_singleton] at hd
        subst hd
        exact so _ m
  · rename_i t ks vs
    cases hk : keyOf t q with
    | none => rw [hk] at hv; cases hv
    | some k =>
      rw [hk] at hv
      obtain ⟨a, rfl, f, hd⟩ := dic_of rx
      obtain ⟨o, g1, _, g2, _⟩ := dget_of hk ry hd
      obtain ⟨z, rfl, rz⟩ := g2 v hv
      exact .inr ⟨a, z, rfl, g1, h z rz⟩
  · cases hv

/-! ### slices -/
theorem cut_rp {ps : List PV} {vs : List V} (ra : RpA G F H ps vs) (lo hi : Option Int) : RpA G F H (cut ps lo hi) (cutV vs lo hi) := by
  unfold cut cutV
  have e : ∀ (n d : Nat) (o : Option Int), clip n d o = HT.sIx n d o := fun n d o => by cases o <;> rfl
  rw [e, e, ra.length]
  exact (ra.drop _).take _
def rSlAny (K : PySem.W.Frag) : V → Option Int → Option Int → Hp → VK → Prop := fun x lo hi H Q => rSlL K x lo hi H Q ∨ rSlA K x lo hi H Q ∨ rSlS x lo hi H Q
theorem sl_any : SlR X (rSlAny X.K) := sl_list.or (sl_tupA.or sl_str)
theorem ok_sl {K : PySem.W.Frag} {p v : PV} {x : V} {lo hi : Option Int} (pr : Pre G P F H) (rx : Rp G F H p x) (hv : slice p lo hi = some v) (h : ResB G P F H v Q) : rSlAny K x lo hi H Q := by
  unfold slice at hv
  split at hv
  · cases hv
    obtain ⟨a, vs, rfl, _, hs, z, ra⟩ := rp_lst (K := K) rx
    exact .inl ⟨a, vs, rfl, hs, h.lst pr (cut_rp ra lo hi) (Nat.le_trans (cutV_length _ _ _) z)⟩
  · cases hv
    obtain ⟨a, vs, rfl, hs, z, ra⟩ := rp_scr (K := K) rx
    exact .inl ⟨a, vs, rfl, hs, h.lst pr (cut_rp ra lo hi) (Nat.le_trans (cutV_length _ _ _) z)⟩
  · cases hv
    rename_i ps
    have rx' := rx
    obtain ⟨a, vs, rfl, _, hs, z, ra⟩ := rp_tup (K := K) rx
    have h := h.val rfl
    refine .inr (.inl ⟨a, vs, rfl, hs, fun e => ?_, fun _ => h.tup pr (cut_rp ra lo hi) (Nat.le_trans (cutV_length _ _ _) z)⟩)
    have : cut ps lo hi = ps := by
      unfold cut
      have e' : ∀ (n d : Nat) (o : Option Int), clip n d o = HT.sIx n d o := fun n d o => by cases o <;> rfl
      rw [e', e', ra.length, e.1, e.2, ← ra.length]
      simp
    rw [this] at h
    exact h.here pr rx'
  · cases hv
    unfold Rp at rx; obtain ⟨rfl, so, l⟩ := rx
    rename_i s
    refine .inr (.inr ⟨_, rfl, by rw [str_len]; exact l, ?_⟩)
    have e' : ∀ (n d : Nat) (o : Option Int), clip n d o = HT.sIx n d o := fun n d o => by cases o <;> rfl
    have e : cutS (strV s) lo hi = strV (cut s lo hi) := by
      unfold cutS cut
      rw [e', e', str_len]
      unfold strV
      simp
    rw [e]
    refine (h.val rfl).here pr (rp_str ?_ ?_)
    · unfold PyData.strOk strV at so ⊢
      simp only [List.all_toArray, List.all_eq_true] at so ⊢
      intro d hd
      unfold cut at hd
      exact so d (List.mem_of_mem_drop (List.mem_of_mem_take hd))
    · unfold cut
      rw [List.length_take, List.length_drop]
      omega
  · cases hv
/-! ### kinds -/
def tyS : TyN → List String
  | .int => ["int"] | .bool => ["bool"] | .str => ["str"] | .tuple => ["tuple"] | .list => ["list"] | .dict => ["dict"] | .none => [] | .seq => ["tuple", "list"]
def tyOf : PV → Option String
  | .non => some "NoneType" | .bl _ => some "bool" | .int _ => some "int" | .str _ => some "str" | .tup _ => some "tuple" | .lst _ => some "list" | .scr _ => some "list" | .dic _ _ _ => some "dict" | .fn _ => none
theorem ty_of {K : PySem.W.Frag} {p : PV} {x : V} {t : String} (rx : Rp G F H p x) (h : tyOf p = some t) : TyX K H x (.type t) := by
  cases p with
  | non => cases h; unfold Rp at rx; subst rx; exact .base .non
  | bl _ => cases h; unfold Rp at rx; subst rx; exact .base (.bl _)
  | int _ => cases h; unfold Rp at rx; subst rx; exact .base (.int _)
  | str _ => cases h; unfold Rp at rx; obtain ⟨rfl, _⟩ := rx; exact .base (.str _)
  | tup _ => cases h; unfold Rp at rx; obtain ⟨a, vs, rfl, f, ha, _⟩ := rx; exact .base (.tup ha)
  | lst _ => cases h; unfold Rp at rx; obtain ⟨a, vs, rfl, f, ha, _⟩ := rx; exact .base (.lst ha)
  | scr _ => cases h; unfold Rp at rx; obtain ⟨a, vs, o, rfl, f, ha, _⟩ := rx; exact .base (.frz ha)
  | dic t _ _ =>
    cases h
    obtain ⟨a, rfl, f, hd⟩ := dic_of rx
    rcases hd with ⟨rfl, ms, vs, ha, _⟩ | ⟨rfl, ms, vs, ha, _⟩
    · exact .base (.dK ha)
    · exact .base (.dT ha)
  | fn _ => cases h
theorem kitB_of (p : PV) (t : TyN) {s u : String} (h : tyOf p = some s) (hu : tyS t = [u]) : kitB s u = some (isTy t p) := by
  cases p <;> simp only [tyOf, Option.some.injEq, reduceCtorEq] at h <;> subst h <;> cases t <;> simp only [tyS, List.cons.injEq, and_true, reduceCtorEq, and_false] at hu <;> subst hu <;> first | (show _ = some true; decide +kernel) | (show _ = some false; decide +kernel)
def rTy (K : PySem.W.Frag) (u : String) : List V → Hp → VK → Prop := fun xs H Q => ∃ (x : V) (t : String) (b : Bool), xs = [x, .ty u] ∧ TyX K H x (.type t) ∧ kitB t u = some b ∧ Q (.bl b) H
theorem ok_isi {K : PySem.W.Frag} {p v : PV} {x : V} {t : TyN} {u : String} (hu : tyS t = [u]) (pr : Pre G P F H) (rx : Rp G F H p x) (hv : isTyO t p = some v) (h : Res G P F H v Q) : rIsi K [x, .ty u] H Q := by
  obtain ⟨s, hs, rfl⟩ : ∃ s, tyOf p = some s ∧ v = .bl (isTy t p) := by
    unfold isTyO at hv
    cases p <;> first | (cases hv; done) | exact ⟨_, rfl, (Option.some.inj hv).symm⟩
  exact ⟨x, .ty u, .type s, .type u, isTy t p, rfl, .ty u, ty_of rx hs, kit_ty (kitB_of p t hs hu), h.bl pr⟩
theorem ok_isiQ {K : PySem.W.Frag} {p v : PV} {x : V} {tp : Addr} (pr : Pre G P F H) (rx : Rp G F H p x) (ht : H tp = some (.tup [.ty "tuple", .ty "list"])) (hv : isTyO .seq p = some v) (h : Res G P F H v Q) : rIsiT K [x, .ref tp] H Q := by
  obtain ⟨s, hs, rfl⟩ : ∃ s, tyOf p = some s ∧ v = .bl (isTy .seq p) := by
    unfold isTyO at hv
    cases p <;> first | (cases hv; done) | exact ⟨_, rfl, (Option.some.inj hv).symm⟩
  refine ⟨x, tp, _, .type s, [.type "tuple", .type "list"], isTy .seq p, rfl, ht, .cons (.ty _) (.cons (.ty _) .nil), ty_of rx hs, ?_, h.bl pr⟩
  have k1 := kitB_of p .tuple hs rfl
  have k2 := kitB_of p .list hs rfl
  refine kitAny_cons (kit_ty k1) (fun e => kitAny_cons (kit_ty k2) (fun e2 => ?_) (fun e2 => ?_)) (fun e => ?_)
  · rw [kitAny_nil]
    cases p <;> simp_all [isTy]
  · cases p <;> simp_all [isTy]
  · cases p <;> simp_all [isTy]
end
end Pu
end

section
set_option Elab.async false
set_option linter.all false
set_option maxRecDepth 100000
namespace Pu
open PySem PySem.Spec PyProof.Rows L2 PySem.W RZ

section
variable {G : Th} {P F : Addr → Prop} {H : Hp} {K : PySem.W.Frag}
/-- turns that change nothing -/
theorem Wk.still {J : It} {xs : List PV} (pr : Pre G P F H) (gs : ∀ F1 H1, Ext G P F H F1 H1 → (∀ i, i < xs.length → J.go i H1) ∧ J.stop xs.length H1)
    (ys : ∀ F1 H1 i x H2, Ext G P F H F1 H1 → i < xs.length → J.yld i H1 x H2 → H2 = H1 ∧ ∃ p, xs[i]? = some p ∧ Rp G F1 H1 p x) : Wk G P F H J xs := fun F1 H1 e =>
  ⟨(gs F1 H1 e).1, (gs F1 H1 e).2, fun i x H2 hi y => by
    obtain ⟨rfl, p, hp, rp⟩ := ys F1 H1 i x H2 e hi y
    exact ⟨F1, p, Ext.refl (e.pre pr), fun b _ => ⟨rfl, id⟩, hp, rp⟩⟩
theorem rp_at {ps : List PV} {vs : List V} {i : Nat} {x : V} {H1 : Hp} {F1 : Addr → Prop} (ra : RpA G F1 H1 ps vs) (hi : i < ps.length) (hx : vs[i]? = some x) : ∃ p, ps[i]? = some p ∧ Rp G F1 H1 p x := by
  obtain ⟨v, hv, rv⟩ := ra.get (List.getElem?_eq_getElem hi)
  rw [hx] at hv; cases hv
  exact ⟨_, List.getElem?_eq_getElem hi, rv⟩
theorem at_some {α : Type} {xs : List α} {i n : Nat} (h : n = xs.length) (hi : i < n) : ∃ x, xs[i]? = some x := ⟨xs[i]'(by omega), List.getElem?_eq_getElem (by omega)⟩
theorem wk_list {ps : List PV} {vs : List V} {a : Addr} (pr : Pre G P F H) (ra : RpA G F H ps vs) (hs : ∀ F1 H1, Ext G P F H F1 H1 → SqL K H1 a vs) : Wk G P F H (Itl K a) ps :=
  Wk.still pr (fun F1 H1 e => ⟨fun i hi => let ⟨x, hx⟩ := at_some ra.length hi; ⟨vs, x, hs F1 H1 e, hx⟩, vs, hs F1 H1 e, by rw [ra.length]; exact Nat.le_refl _⟩)
    fun F1 H1 i x H2 e hi y => ⟨y.1, rp_at (e.rpA ra) hi (y.2 vs (hs F1 H1 e))⟩
theorem wk_tup {ps : List PV} {vs : List V} {a : Addr} (pr : Pre G P F H) (ra : RpA G F H ps vs) (hs : ∀ F1 H1, Ext G P F H F1 H1 → SqT K H1 a vs) : Wk G P F H (Itt K a) ps :=
  Wk.still pr (fun F1 H1 e => ⟨fun i hi => let ⟨x, hx⟩ := at_some ra.length hi; ⟨vs, x, hs F1 H1 e, hx⟩, vs, hs F1 H1 e, by rw [ra.length]; exact Nat.le_refl _⟩)
    fun F1 H1 i x H2 e hi y => ⟨y.1, rp_at (e.rpA ra) hi (y.2 vs (hs F1 H1 e))⟩
theorem keepL {ps : List PV} {x : V} (r : Rp G F H (.lst ps) x) : ∃ a vs, x = .ref a ∧ vs.length ≤ sizeLine ∧ RpA G F H ps vs ∧ ∀ F1 H1, Ext G P F H F1 H1 → SqL K H1 a vs := by
  unfold Rp at r
  obtain ⟨a, vs, rfl, f, h, z, ra⟩ := r
  exact ⟨a, vs, rfl, z, ra, fun F1 H1 e => SqL.of (e.keep a _ (.inl f) h fun _ q => nomatch q)⟩
theorem keepS {ps : List PV} {x : V} (r : Rp G F H (.scr ps) x) : ∃ a vs, x = .ref a ∧ vs.length ≤ sizeLine ∧ RpA G F H ps vs ∧ ∀ F1 H1, Ext G P F H F1 H1 → SqL K H1 a vs := by
  unfold Rp at r
  obtain ⟨a, vs, o, rfl, f, h, z, ra⟩ := r
  exact ⟨a, vs, rfl, z, ra, fun F1 H1 e => .inl (.inr ⟨o, e.keep a _ (.inl f) h fun _ q => nomatch q⟩)⟩
theorem keepT {ps : List PV} {x : V} (r : Rp G F H (.tup ps) x) : ∃ a vs, x = .ref a ∧ vs.length ≤ sizeLine ∧ RpA G F H ps vs ∧ ∀ F1 H1, Ext G P F H F1 H1 → SqT K H1 a vs := by
  unfold Rp at r
  obtain ⟨a, vs, rfl, f, h, z, ra⟩ := r
  exact ⟨a, vs, rfl, z, ra, fun F1 H1 e => SqT.of (e.keep a _ (.inl f) h fun _ q => nomatch q)⟩
theorem sign_ok {s : List Nat} {c : Nat} (so : PyData.strOk (strV s) = true) (m : c ∈ s) : PyData.strOk (strV [c]) = true := by
  unfold PyData.strOk strV at so ⊢
  simp only [List.all_toArray, List.all_eq_true] at so ⊢
  intro d hd
  rw [List.mem_singleton] at hd
  subst hd
  exact so _ m
theorem one_line : 1 ≤ sizeLine := by rw [sizeLine_eq]; omega
/-- what a for walks -/
def iAny (K : PySem.W.Frag) (tl : TE) : TI := fun σ H R => tl σ H fun x H1 => (∃ a, x = .ref a ∧ (∃ xs, SqL K H1 a xs) ∧ R (Itl K a) H1) ∨ (∃ a, x = .ref a ∧ (∃ xs, SqT K H1 a xs) ∧ R (Itt K a) H1) ∨ ∃ z, x = .str z ∧ R (Its z) H1
theorem pi_any {X : Cx} {tg l : Expr} {tl : TE} (hl : PE X l tl) : PI X tg l (iAny X.K tl) := by
  refine ⟨fun pins s σ H R I h => ?_⟩
  refine thn (hl.run pins s σ H _ I h) fun v s1 ⟨x, H1, I1, r1, q1⟩ => ?_
  rcases q1 with ⟨a, e, ⟨xs, hq⟩, q⟩ | ⟨a, e, ⟨xs, hq⟩, q⟩ | ⟨z, ex, q⟩
  · subst e
    cases r1
    obtain ⟨its, rv, p, hz⟩ := I1.list hq
    refine wpAny_pyIter_list p.isList ?_
    refine ⟨s1.heap.objs.size, [s1.heap.objs.size], _, _, H1, rfl, I1.kept (t' := s1.toks) fun b o e => Heap.get?_push_of_some _ e, turn_list a _, ⟨_, Heap.get?_push_size _ rfl, rfl, rfl⟩, fun b hb => ?_, q⟩
    have e : b = s1.heap.objs.size := by simpa using hb
    subst e
    exact I1.fpOk (Nat.le_refl _) (I1.hok.fresh (Nat.le_refl _))
  · subst e
    cases r1
    obtain ⟨its, rv, p, hz⟩ := I1.tuple hq
    refine wpAny_pyIter_tuple (show s1.heap.IsTuple a its.toArray from p) ?_
    refine ⟨s1.heap.objs.size, [s1.heap.objs.size], _, _, H1, rfl, I1.kept (t' := s1.toks) fun b o e => Heap.get?_push_of_some _ e, turn_tuple a _, ⟨_, Heap.get?_push_size _ rfl, rfl, rfl⟩, fun b hb => ?_, q⟩
    have e : b = s1.heap.objs.size := by simpa using hb
    subst e
    exact I1.fpOk (Nat.le_refl _) (I1.hok.fresh (Nat.le_refl _))
  · subst ex
    obtain ⟨t, rfl⟩ := r1
    cases ha : z.cps.all (· < 128)
    · exact wpAny_pyIter_wide ha (pi_one (tk := s1.toks) I1 _ (turn_str _ z t "str_iterator" (.inr rfl)) ⟨_, Heap.get?_push_size _ rfl, rfl, rfl⟩ q)
    · exact wpAny_pyIter_ascii ha (pi_one (tk := s1.toks) I1 _ (turn_str _ z t "str_ascii_iterator" (.inl rfl)) ⟨_, Heap.get?_push_size _ rfl, rfl, rfl⟩ q)
theorem ok_items {p : PV} {x : V} {xs : List PV} {R : It → Hp → Prop} (pr : Pre G P F H) (rx : Rp G F H p x) (hv : itemsOf p = some xs) (h : ∀ J, Wk G P F H J xs → R J H) :
    (∃ a, x = .ref a ∧ (∃ xs, SqL K H a xs) ∧ R (Itl K a) H) ∨ (∃ a, x = .ref a ∧ (∃ xs, SqT K H a xs) ∧ R (Itt K a) H) ∨ ∃ z, x = .str z ∧ R (Its z) H := by
  unfold itemsOf at hv
  split at hv
  · cases hv
    obtain ⟨a, vs, rfl, z, ra, k⟩ := keepL (K := K) (P := P) rx
    exact .inl ⟨a, rfl, ⟨vs, k _ _ (Ext.refl pr)⟩, h _ (wk_list pr ra k)⟩
  · cases hv
    obtain ⟨a, vs, rfl, z, ra, k⟩ := keepT (K := K) (P := P) rx
    exact .inr (.inl ⟨a, rfl, ⟨vs, k _ _ (Ext.refl pr)⟩, h _ (wk_tup pr ra k)⟩)
  · cases hv
    obtain ⟨a, vs, rfl, z, ra, k⟩ := keepS (K := K) (P := P) rx
    exact .inl ⟨a, rfl, ⟨vs, k _ _ (Ext.refl pr)⟩, h _ (wk_list pr ra k)⟩
  · cases hv
    unfold Rp at rx
    obtain ⟨rfl, so, l⟩ := rx
    rename_i s
    refine .inr (.inr ⟨_, rfl, h _ (Wk.still pr (fun F1 H1 e => ⟨fun i hi => ?_, ?_⟩) fun F1 H1 i x H2 e hi y => ⟨y.1, ?_⟩)⟩)
    · show i < (strV s).cps.size
      unfold strV; simpa using hi
    · show (strV s).cps.size ≤ _
      unfold strV; simp
    · obtain ⟨c, hc, rfl⟩ := y.2
      have hc' : s[i]? = some c := by unfold strV at hc; simpa using hc
      refine ⟨.str [c], by simp [hc'], rp_str (sign_ok so (List.mem_of_getElem? hc')) one_line⟩
  · cases hv
/-! ### ranges -/
theorem wk_rng {lo c : Int} {n : Nat} (pr : Pre G P F H) : Wk G P F H (Itc lo c n) (rngL lo n c) :=
  Wk.still pr (fun F1 H1 e => ⟨fun i hi => by show i < n; unfold rngL at hi; simpa using hi, by show n ≤ _; unfold rngL; simp⟩)
    fun F1 H1 i x H2 e hi y => ⟨y.1, .int (lo + (i : Nat) * c), by unfold rngL at hi ⊢; simp at hi; simp [hi], by unfold Rp; exact y.2⟩
theorem wk_rng1 {lo : Int} {n : Nat} (pr : Pre G P F H) : Wk G P F H (Itr lo n) (rngL lo n 1) :=
  Wk.still pr (fun F1 H1 e => ⟨fun i hi => by show i < n; unfold rngL at hi; simpa using hi, by show n ≤ _; unfold rngL; simp⟩)
    fun F1 H1 i x H2 e hi y => ⟨y.1, .int (lo + (i : Nat) * 1), by unfold rngL at hi ⊢; simp at hi; simp [hi], by unfold Rp; rw [Int.mul_one]; exact y.2⟩
theorem small_of {n : Int} (h : small62 n = true) : -(2 ^ 62) ≤ n ∧ n < 2 ^ 62 := by
  unfold small62 at h
  simp only [Bool.and_eq_true, decide_eq_true_eq] at h
  exact h
/-! ### pairs -/
theorem wk_pair {J : It} {xs : List PV} {n : Nat} (hn : n = xs.length) (pr : Pre G P F H) (gs : ∀ F1 H1, Ext G P F H F1 H1 → (∀ i, i < n → J.go i H1) ∧ J.stop n H1)
    (ys : ∀ F1 H1 i x H2, Ext G P F H F1 H1 → i < n → J.yld i H1 x H2 → ∃ T u v p q, x = .ref T ∧ H1 T = none ∧ H2 = upd H1 T (.tup [u, v]) ∧ xs[i]? = some (.tup [p, q]) ∧ Rp G F1 H1 p u ∧ Rp G F1 H1 q v) : Wk G P F H J xs := fun F1 H1 e => by
  subst hn
  refine ⟨(gs F1 H1 e).1, (gs F1 H1 e).2, fun i x H2 hi y => ?_⟩
  obtain ⟨T, u, v, p, q, rfl, hT, rfl, hx, ru, rv⟩ := ys F1 H1 i x H2 e hi y
  have en : Ext G P F1 H1 (fun b => b = T ∨ F1 b) (upd H1 T (.tup [u, v])) := Ext.new (e.pre pr) hT
  refine ⟨_, _, en, fun b hb => ⟨?_, fun z => z.elim (fun z => absurd (z ▸ hT) hb) id⟩, hx, ?_⟩
  · exact upd_ne (fun z => hb (z ▸ hT))
  · unfold Rp
    refine ⟨T, [u, v], rfl, .inl rfl, upd_same, by show 2 ≤ sizeLine; rw [sizeLine_eq]; omega, RpA.cons (en.rp ru) (RpA.cons (en.rp rv) RpA.nil)⟩
theorem enumL_get : ∀ {xs : List PV} {n : Int} {i : Nat} {p : PV}, xs[i]? = some p → (enumL n xs)[i]? = some (.tup [.int (n + i), p])
  | [], _, _, _, h => by simp at h
  | x :: xs, n, 0, p, h => by simp at h; subst h; simp [enumL]
  | x :: xs, n, i + 1, p, h => by
    have := enumL_get (n := n + 1) (show xs[i]? = some p by simpa using h)
    simp only [enumL, List.getElem?_cons_succ]
    rw [this]
    rw [show n + 1 + (i : Int) = n + ((i + 1 : Nat) : Int) by omega]
theorem enumL_len : ∀ {xs : List PV} {n : Int}, (enumL n xs).length = xs.length
  | [], _ => rfl
  | x :: xs, n => by simp [enumL, enumL_len]
theorem zipL_len : ∀ {xs ys : List PV}, (zipL xs ys).length = min xs.length ys.length
  | [], _ => by simp [zipL]
  | _ :: _, [] => by simp [zipL]
  | x :: xs, y :: ys => by simp only [zipL, List.length_cons, zipL_len]; omega
theorem zipL_get : ∀ {xs ys : List PV} {i : Nat} {p q : PV}, xs[i]? = some p → ys[i]? = some q → (zipL xs ys)[i]? = some (.tup [p, q])
  | [], _, _, _, _, h, _ => by simp at h
  | _ :: _, [], _, _, _, _, h => by simp at h
  | x :: xs, y :: ys, 0, p, q, h, k => by simp at h k; subst h k; simp [zipL]
  | x :: xs, y :: ys, i + 1, p, q, h, k => by
    simp only [zipL, List.getElem?_cons_succ]
    exact zipL_get (by simpa using h) (by simpa using k)
theorem keepA {p : PV} {ps : List PV} {x : V} (h : itemsL p = some ps) (r : Rp G F H p x) : ∃ a vs, x = .ref a ∧ vs.length ≤ sizeLine ∧ RpA G F H ps vs ∧ ∀ F1 H1, Ext G P F H F1 H1 → SqL K H1 a vs := by
  unfold itemsL at h
  split at h
  · cases h; exact keepL r
  · cases h; exact keepS r
  · cases h
theorem ok_enum {p : PV} {x : V} {xs : List PV} {R : It → Hp → Prop} (pr : Pre G P F H) (rx : Rp G F H p x) (hv : itemsL p = some xs) (h : ∀ J, Wk G P F H J (enumL 0 xs) → R J H) :
    ∃ a ys, [x] = [.ref a] ∧ SqL K H a ys ∧ R (Ite K a) H := by
  obtain ⟨a, vs, rfl, z, ra, k⟩ := keepA (K := K) (P := P) hv rx
  refine ⟨a, vs, rfl, k _ _ (Ext.refl pr), h _ (wk_pair (n := xs.length) enumL_len.symm pr (fun F1 H1 e => ⟨fun i hi => ?_, ?_⟩) fun F1 H1 i x H2 e hi y => ?_)⟩
  · obtain ⟨x, hx⟩ := at_some ra.length hi
    exact ⟨vs, x, k F1 H1 e, hx⟩
  · exact ⟨vs, k F1 H1 e, by rw [ra.length]; exact Nat.le_refl _⟩
  · obtain ⟨T, x, rfl, hT, rfl, hx⟩ := y
    obtain ⟨p, hp, rp⟩ := rp_at (e.rpA ra) hi (hx vs (k F1 H1 e))
    refine ⟨T, _, _, .int (0 + (i : Nat)), p, rfl, hT, rfl, enumL_get hp, by unfold Rp; rw [Int.zero_add], rp⟩
theorem ok_zip {p q : PV} {x y : V} {xs : List PV} {R : It → Hp → Prop} (pr : Pre G P F H) (rx : Rp G F H p x) (ry : Rp G F H q y) (hv : zipP p q = some xs) (h : ∀ J, Wk G P F H J xs → R J H) :
    ∃ a b us vs, [x, y] = [.ref a, .ref b] ∧ ((SqL K H a us ∧ SqL K H b vs ∧ R (Itz K a b) H) ∨ (SqT K H a us ∧ SqT K H b vs ∧ R (ItzT K a b) H)) := by
  unfold zipP at hv
  split at hv
  · rename_i us vs h1 h2
    cases hv
    obtain ⟨a, as, rfl, z1, r1, k1⟩ := keepA (K := K) (P := P) h1 rx
    obtain ⟨b, bs, rfl, z2, r2, k2⟩ := keepA (K := K) (P := P) h2 ry
    refine ⟨a, b, as, bs, rfl, .inl ⟨k1 _ _ (Ext.refl pr), k2 _ _ (Ext.refl pr), h _ (wk_pair (n := min us.length vs.length) zipL_len.symm pr (fun F1 H1 e => ⟨fun i hi => ?_, ?_⟩) fun F1 H1 i x H2 e hi y => ?_)⟩⟩
    · obtain ⟨x, hx⟩ := at_some r1.length (show i < us.length by omega)
      obtain ⟨y, hy⟩ := at_some r2.length (show i < vs.length by omega)
      exact ⟨as, bs, x, y, k1 F1 H1 e, k2 F1 H1 e, hx, hy⟩
    · exact ⟨as, bs, k1 F1 H1 e, k2 F1 H1 e, by have := r1.length; have := r2.length; omega⟩
    · obtain ⟨T, x, y, rfl, hT, rfl, hx, hy⟩ := y
      obtain ⟨p, hp, rp⟩ := rp_at (e.rpA r1) (by omega) (hx as (k1 F1 H1 e))
      obtain ⟨q, hq, rq⟩ := rp_at (e.rpA r2) (by omega) (hy bs (k2 F1 H1 e))
      exact ⟨T, _, _, p, q, rfl, hT, rfl, zipL_get hp hq, rp, rq⟩
  · split at hv
    · rename_i us vs _
      cases hv
      obtain ⟨a, as, rfl, z1, r1, k1⟩ := keepT (K := K) (P := P) rx
      obtain ⟨b, bs, rfl, z2, r2, k2⟩ := keepT (K := K) (P := P) ry
      refine ⟨a, b, as, bs, rfl, .inr ⟨k1 _ _ (Ext.refl pr), k2 _ _ (Ext.refl pr), h _ (wk_pair (n := min us.length vs.length) zipL_len.symm pr (fun F1 H1 e => ⟨fun i hi => ?_, ?_⟩) fun F1 H1 i x H2 e hi y => ?_)⟩⟩
      · obtain ⟨x, hx⟩ := at_some r1.length (show i < us.length by omega)
        obtain ⟨y, hy⟩ := at_some r2.length (show i < vs.length by omega)
        exact ⟨as, bs, x, y, k1 F1 H1 e, k2 F1 H1 e, hx, hy⟩
      · exact ⟨as, bs, k1 F1 H1 e, k2 F1 H1 e, by have := r1.length; have := r2.length; omega⟩
      · obtain ⟨T, x, y, rfl, hT, rfl, hx, hy⟩ := y
        obtain ⟨p, hp, rp⟩ := rp_at (e.rpA r1) (by omega) (hx as (k1 F1 H1 e))
        obtain ⟨q, hq, rq⟩ := rp_at (e.rpA r2) (by omega) (hy bs (k2 F1 H1 e))
        exact ⟨T, _, _, p, q, rfl, hT, rfl, zipL_get hp hq, rp, rq⟩
    · cases hv
end
end Pu
end

section
set_option Elab.async false
set_option linter.all false
set_option maxRecDepth 100000
namespace Pu
open PySem PySem.Spec PyProof.Rows L2 PySem.W RZ

/-! ### what an expression's form tells -/
def notStar : Expr → Bool
  | .Starred _ _ => false
  | _ => true
theorem starEach_ns {e : Expr} {es : List Expr} {env : Env} (h : notStar e = true) : starEach (e :: es) env = (false, eval e env) :: starEach es env := by
  cases e <;> first | (cases h; done) | rfl
theorem back_any {pos : Pos} {env : Env} : ∀ {es : List Expr}, es.all notStar = true → (backTo pos (starEach es env)).any (·.1) = false
  | [], _ => rfl
  | e :: es, h => by
    simp only [List.all_cons, Bool.and_eq_true] at h
    have := back_any (pos := pos) (env := env) h.2
    rw [starEach_ns h.1]
    unfold backTo at this ⊢
    simp only [List.map_cons, List.any_cons, this]
    rfl
def notSet : Expr → Bool
  | .Set _ _ _ => false
  | _ => true
theorem folded_ns {e : Expr} {env : Env} (h : notSet e = true) (x : Value) : foldedSetIterable e env x = pure x := by
  cases e <;> first | (cases h; done) | rfl
theorem marks_ns {e : Expr} (op : CmpOp) (h : notSet e = true) : behindInMarks op e = false := by
  cases e <;> first | (cases h; done) | rfl
theorem last_ns {a b : Expr} {o o' : CmpOp} (h : notSet b = true) : lastMarks [o, o'] [a, b] = false := marks_ns o' h
def plainT : Expr → Bool
  | .UnaryOp .Not _ _ | .BoolOp _ _ _ | .IfExp _ _ _ _ | .Compare _ _ _ _ => false
  | _ => true
theorem isTrue_pl {e : Expr} {env : Env} (h : plainT e = true) (whole : Sem Value) : isTrue e env whole = (do let v ← whole; standAt e.pos; holding [v] (truthy v)) := by
  cases e <;> first | (cases h; done) | rfl | (rename_i op _ _; cases op <;> first | (cases h; done) | rfl)
def plainIx : Expr → Bool
  | .Slice _ _ _ _ => false
  | _ => true
theorem plainIx_ok {e : Expr} (h : plainIx e = true) : PlainIx e := fun o i => by
  cases e <;> first | (cases h; done) | rfl
def notBO : Expr → Bool
  | .BoolOp _ _ _ => false
  | _ => true

/-! ### names -/
inductive GK where
  | free | fn (f : Nat) | cst (c : PV) | cls (c : Nat)
structure Ck where
  N : List Str
  gl : List (Str × GK)
  tb : List PFn
structure Bk where
  sc : Scope
  fn : Str → Bool
  io : Bool
def nmOk (C : Ck) (b : Bk) (i : Nat) (x : Str) : Bool :=
  decide (C.N[i]? = some x) && (decide (b.sc.names.lookup x = some .local) || decide (b.sc.names.lookup x = some .cell) || decide (b.sc.names.lookup x = some .free)) && !(x == ("__debug__" : Str)) && !(x == ("__classdict__" : Str))
def tgOk (C : Ck) (b : Bk) (i : Nat) (x : Str) : Bool :=
  (!b.io || decide (i ≠ 0)) && decide (C.N[i]? = some x) && (decide (b.sc.names.lookup x = some .local) || (decide (b.sc.names.lookup x = some .cell) && b.fn x))
def glO (C : Ck) (b : Bk) (x : Str) : Option GK := if decide (b.sc.names.lookup x = some .globalImplicit) && !(x == ("__debug__" : Str)) && !decide (x = ("__name__" : Str)) then C.gl.lookup x else none
def isFree (C : Ck) (b : Bk) (x : Str) : Bool := match glO C b x with
  | some .free => true
  | _ => false
def isFn (C : Ck) (b : Bk) (x : Str) (f : Nat) : Bool := match glO C b x with
  | some (.fn g) => g == f
  | _ => false
def isCls (C : Ck) (b : Bk) (x : Str) (f : Nat) : Bool := match glO C b x with
  | some (.cls g) => g == f
  | _ => false
def GOk (G : Th) (X : Cx) (x : Str) : GK → Prop
  | .free => X.mg x = none
  | .fn f => X.mg x = some (.ref (G.fa f))
  | .cst c => ∃ u v, X.mg x = some u ∧ RelV v u ∧ ∀ F H, Rp G F H c v
  | .cls c => X.mg x = some (.ref (G.ca c)) ∧ PySem.W.excIn X.K (G.ca c) He.veBase "ValueError.__new__" = true ∧ PySem.W.keepIn X.K (.ref (G.ca c)) = true ∧ PySem.W.subIn X.K (.ref (G.ca c)) (.type "BaseException") = some true ∧ PySem.W.typeIn X.K (.ref (G.ca c)) = some (.type "type")

/-! ### calls -/
def OutF (G : Th) (P F : Addr → Prop) (H : Hp) (fr : Bool) (v : PV) (Q : VK) : Prop := if fr then ResB G P F H v Q else Res G P F H v Q
/-- a def's promise -/
def spN (G : Th) (cl : Nat → Option (List PV) → List PV → Outc) (f : Nat) (fn : PFn) : Sp := fun vs H Q E => vs.length = fn.ar ∧ ∃ P F ps, Pre G P F H ∧ RpA G F H ps vs ∧ match cl f none ps with
  | .val v _ => OutF G P F H fn.fr v Q
  | .exc c ws _ => ∀ F' H' d, Ext G P F H F' H' → ExcR G F' H' c ws d → E (.ref (G.ca c)) d H'
  | .stuck => False
def spIO (G : Th) (cl : Nat → Option (List PV) → List PV → Outc) (f : Nat) (fn : PFn) : Sp := fun vs H Q E => vs.length = fn.ar ∧ ∃ P F ps a vs' xs us, vs = .ref a :: vs' ∧ Pre G P F H ∧ ¬ F a ∧ ¬ P a ∧ H a = some (.lst us) ∧ us.length ≤ sizeLine ∧ RpA G F H xs us ∧ RpA G F H ps vs' ∧ match cl f (some xs) ps with
  | .val v ys => ∀ F' H' z ws, Ext G P F H F' H' → ¬ F' a → H' a = some (.lst ws) → ws.length ≤ sizeLine → RpA G F' H' ys ws → Rp G F' H' v z → Q z H'
  | .exc c es ys => ∀ F' H' d ws, Ext G P F H F' H' → ¬ F' a → H' a = some (.lst ws) → ws.length ≤ sizeLine → RpA G F' H' ys ws → ExcR G F' H' c es d → E (.ref (G.ca c)) d H'
  | .stuck => False
def spOf (G : Th) (cl : Nat → Option (List PV) → List PV → Outc) (f : Nat) (fn : PFn) : Sp := if fn.io then spIO G cl f fn else spN G cl f fn
def FnsOk (P : Program) (w : World) (K : PySem.W.Frag) (mg : Str → Option Value) (base : Heap) (k : Nat) (G : Th) (cl : Nat → Option (List PV) → List PV → Outc) (tb : List PFn) : Prop :=
  ∀ f fn, tb[f]? = some fn → ∃ fd ps, FnOk P w K mg base (L2.CX P w) k (G.fa f) fd ps (spOf G cl f fn) ∧ Binds K fd ps [] ∧ PySem.W.keepIn K (.ref (G.fa f)) = true

/-- what holds where a piece runs -/
structure CX1 (G : Th) (W : WX) (cl : Nat → Option (List PV) → List PV → Outc) (io : Option Addr) (C : Ck) (b : Bk) (X : Cx) : Prop where
  N : X.N = C.N
  io : b.io = false → io = none
  nd : C.N.Nodup
  sc : X.env.scope = b.sc
  fn : X.fn = b.fn
  calm : X.calm = true
  un : X.A.units + 65 < cLine
  gl : ∀ x g, C.gl.lookup x = some g → GOk G X x g
  room : ∃ k, Room k X.A ∧ FnsOk X.prog X.w X.K X.mg X.base k G cl C.tb
  tk : Takes X W
  fit : ∀ f fn o ps, C.tb[f]? = some fn → cl f o ps ≠ .stuck → ps.length + (if o.isSome then 1 else 0) = fn.ar ∧ o.isSome = fn.io

section
variable {G : Th} {W : WX} {cl : Nat → Option (List PV) → List PV → Outc} {io : Option Addr} {C : Ck} {b : Bk} {X : Cx}
theorem CX1.nm (cx : CX1 G W cl io C b X) {i : Nat} {x : Str} (h : nmOk C b i x = true) {pos : Pos} : X.N[i]? = some x ∧ Vis X.env.scope x ∧ PE X (.Name x pos) (tVar i) := by
  unfold nmOk at h
  simp only [Bool.and_eq_true, Bool.or_eq_true, decide_eq_true_eq, Bool.not_eq_true'] at h
  obtain ⟨⟨⟨h1, h2⟩, h3⟩, h4⟩ := h
  have v : Vis X.env.scope x := by
    rw [cx.sc]
    rcases h2 with (h2 | h2) | h2
    · exact .inl h2
    · exact .inr (.inl h2)
    · exact .inr (.inr h2)
  have n : X.N[i]? = some x := by rw [cx.N]; exact h1
  exact ⟨n, v, pe_var n v h3 h4⟩
theorem CX1.tg (cx : CX1 G W cl io C b X) {i : Nat} {x : Str} (h : tgOk C b i x = true) {pos : Pos} : X.N[i]? = some x ∧ Loc X.env.scope x ∧ (X.fn x = true ∨ X.env.scope.names.lookup x = some .local) ∧ PG X (.Name x pos) (gName i) ∧ (∀ a, io = some a → i ≠ 0) := by
  unfold tgOk at h
  simp only [Bool.and_eq_true, Bool.or_eq_true, decide_eq_true_eq, Bool.not_eq_true'] at h
  obtain ⟨⟨h0, h1⟩, h2⟩ := h
  have n : X.N[i]? = some x := by rw [cx.N]; exact h1
  have l : Loc X.env.scope x := by
    rw [cx.sc]
    rcases h2 with h2 | h2
    · exact .inl h2
    · exact .inr h2.1
  have f : X.fn x = true ∨ X.env.scope.names.lookup x = some .local := by
    rcases h2 with h2 | h2
    · exact .inr (by rw [cx.sc]; exact h2)
    · exact .inl (by rw [cx.fn]; exact h2.2)
  exact ⟨n, l, f, pg_name (by rw [cx.N]; exact cx.nd) n l f, fun a ha => h0.elim (fun z => by rw [cx.io z] at ha; cases ha) id⟩
theorem CX1.glo (cx : CX1 G W cl io C b X) {x : Str} {g : GK} (h : glO C b x = some g) : Gl X x ∧ GOk G X x g ∧ (x == ("__debug__" : Str)) = false ∧ x ≠ "__name__" := by
  unfold glO at h
  split at h
  · rename_i c
    simp only [Bool.and_eq_true, decide_eq_true_eq, Bool.not_eq_true', decide_eq_false_iff_not] at c
    refine ⟨?_, cx.gl x g h, c.1.2, c.2⟩
    show X.env.scope.names.lookup x = some .globalImplicit
    rw [cx.sc]; exact c.1.1
  · cases h
theorem CX1.free (cx : CX1 G W cl io C b X) {x : Str} (h : isFree C b x = true) : Gl X x ∧ X.mg x = none ∧ (x == ("__debug__" : Str)) = false ∧ x ≠ "__name__" := by
  unfold isFree at h
  split at h
  · rename_i e; exact cx.glo e
  · cases h
theorem CX1.isFn (cx : CX1 G W cl io C b X) {x : Str} {f : Nat} (h : isFn C b x f = true) : Gl X x ∧ X.mg x = some (.ref (G.fa f)) ∧ (x == ("__debug__" : Str)) = false := by
  unfold Pu.isFn at h
  split at h
  · rename_i g e
    have := beq_iff_eq.mp h
    subst this
    obtain ⟨h1, h2, h3, _⟩ := cx.glo e
    exact ⟨h1, h2, h3⟩
  · cases h
theorem CX1.isCls (cx : CX1 G W cl io C b X) {x : Str} {f : Nat} (h : isCls C b x f = true) : Gl X x ∧ GOk G X x (.cls f) ∧ (x == ("__debug__" : Str)) = false := by
  unfold Pu.isCls at h
  split at h
  · rename_i g e
    have := beq_iff_eq.mp h
    subst this
    obtain ⟨h1, h2, h3, _⟩ := cx.glo e
    exact ⟨h1, h2, h3⟩
  · cases h
end

/-! ### from running to wishes -/
section
variable {G : Th} {W : WX} {cl : Nat → Option (List PV) → List PV → Outc} {P F : Addr → Prop} {io : Option Addr} {ρ : Sl} {σ : L2.St} {H H₀ : Hp} {α β : Type}
theorem pe_never {X : Cx} {e : Expr} : PE X e fun _ _ _ => False := ⟨fun _ _ _ _ _ _ h => h.elim⟩
theorem Fn.res {o : Option PV} {Q : VK} (rel : Rel G P F io ρ σ H) (h : Fn G P io W (AV G) F σ H (R.of o ρ) Q) : ∃ v, o = some v ∧ Res G (fun a => P a ∨ OwnA ρ σ a) F H v Q := by
  obtain ⟨v, rfl, q⟩ := Fn.of h
  exact ⟨v, rfl, fun F' H' z e r => q F' H' z (e.sub fun _ h => .inl h) (rel.step e) r⟩
theorem Fn.resB {o : Option PV} {Q : VK} (hn : ∀ b, H b = none → H₀ b = none) (rel : Rel G P F io ρ σ H) (h : Fn G P io W (AF G σ H₀) F σ H (R.of o ρ) Q) : ∃ v, o = some v ∧ ResB G (fun a => P a ∨ OwnA ρ σ a) F H v Q := by
  obtain ⟨v, rfl, q⟩ := Fn.of h
  refine ⟨v, rfl, ?_⟩
  unfold ResB
  split
  · intro F' H' b e hb nf ob
    refine q F' H' _ (e.sub fun _ h => .inl h) (rel.step e) (.inr ⟨b, rfl, hn b hb, nf, fun oa => ?_, ob⟩)
    obtain ⟨_, _, u, hu, _⟩ := rel.ownA oa
    rw [hb] at hu; cases hu
  · rename_i no
    exact fun F' H' z e r => q F' H' z (e.sub fun _ h => .inl h) (rel.step e) (.inl ⟨by simpa using no, r⟩)
theorem Fn.bl {o : Option Bool} {Q : Bool → Hp → Prop} (rel : Rel G P F io ρ σ H) (h : Fn G P io W AE F σ H (R.of o ρ) Q) : ∃ v, o = some v ∧ Q v H := by
  obtain ⟨v, rfl, q⟩ := Fn.of h
  exact ⟨v, rfl, q F H v (Ext.refl rel.pre) rel rfl⟩
/-- one piece, then an operation -/
theorem un_tF {p a : PX} {op : PV → Option PV} {r : V → Hp → VK → Prop} (hs : den cl p = fun ρ => (den cl a ρ).bind fun x ρ => R.of (op x) ρ)
    (ok : ∀ P F H Q x u w, Pre G P F H → Rp G F H u x → op u = some w → ResB G P F H w Q → r x H Q) : ∀ σ H Q, tF G W cl io p σ H Q → tE G W cl io a σ H fun x H1 => r x H1 Q := fun σ H Q ⟨P, F, ρ, rel, fin⟩ => by
  rw [hs] at fin
  refine ⟨P, F, ρ, rel, Fn.mono (Fn.bind fin) fun x H1 ⟨F1, u, ρ1, e1, rel1, a1, fin1⟩ => ?_⟩
  obtain ⟨w, hw, q⟩ := Fn.resB (fun b hb => e1.nope hb) rel1 fin1
  exact ok _ F1 H1 Q x u w rel1.pre' a1 hw q
theorem un_tE {p a : PX} {op : PV → Option PV} {r : V → Hp → VK → Prop} (hs : den cl p = fun ρ => (den cl a ρ).bind fun x ρ => R.of (op x) ρ)
    (ok : ∀ P F H Q x u w, Pre G P F H → Rp G F H u x → op u = some w → Res G P F H w Q → r x H Q) : ∀ σ H Q, tE G W cl io p σ H Q → tE G W cl io a σ H fun x H1 => r x H1 Q := fun σ H Q ⟨P, F, ρ, rel, fin⟩ => by
  rw [hs] at fin
  refine ⟨P, F, ρ, rel, Fn.mono (Fn.bind fin) fun x H1 ⟨F1, u, ρ1, e1, rel1, a1, fin1⟩ => ?_⟩
  obtain ⟨w, hw, q⟩ := Fn.res rel1 fin1
  exact ok _ F1 H1 Q x u w rel1.pre' a1 hw q
theorem bin_tF {p a c : PX} {op : PV → PV → Option PV} {r : V → V → Hp → VK → Prop} (hs : den cl p = fun ρ => (den cl a ρ).bind fun x ρ => (den cl c ρ).bind fun y ρ => R.of (op x y) ρ)
    (ok : ∀ P F H Q x y u v w, Pre G P F H → Rp G F H u x → Rp G F H v y → op u v = some w → ResB G P F H w Q → r x y H Q) : ∀ σ H Q, tF G W cl io p σ H Q → tE G W cl io a σ H fun x H1 => tE G W cl io c σ H1 fun y H2 => r x y H2 Q := fun σ H Q ⟨P, F, ρ, rel, fin⟩ => by
  rw [hs] at fin
  refine ⟨P, F, ρ, rel, Fn.mono (Fn.bind fin) fun x H1 ⟨F1, u, ρ1, e1, rel1, a1, fin1⟩ => ⟨P, F1, ρ1, rel1, Fn.mono (Fn.bind fin1) fun y H2 ⟨F2, v, ρ2, e2, rel2, a2, fin2⟩ => ?_⟩⟩
  obtain ⟨w, hw, q⟩ := Fn.resB (fun b hb => e1.nope (e2.nope hb)) rel2 fin2
  exact ok _ F2 H2 Q x y u v w rel2.pre' (e2.rp a1) a2 hw q
theorem bin_tE {p a c : PX} {op : PV → PV → Option PV} {r : V → V → Hp → VK → Prop} (hs : den cl p = fun ρ => (den cl a ρ).bind fun x ρ => (den cl c ρ).bind fun y ρ => R.of (op x y) ρ)
    (ok : ∀ P F H Q x y u v w, Pre G P F H → Rp G F H u x → Rp G F H v y → op u v = some w → Res G P F H w Q → r x y H Q) : ∀ σ H Q, tE G W cl io p σ H Q → tE G W cl io a σ H fun x H1 => tE G W cl io c σ H1 fun y H2 => r x y H2 Q := fun σ H Q ⟨P, F, ρ, rel, fin⟩ => by
  rw [hs] at fin
  refine ⟨P, F, ρ, rel, Fn.mono (Fn.bind fin) fun x H1 ⟨F1, u, ρ1, e1, rel1, a1, fin1⟩ => ⟨P, F1, ρ1, rel1, Fn.mono (Fn.bind fin1) fun y H2 ⟨F2, v, ρ2, e2, rel2, a2, fin2⟩ => ?_⟩⟩
  obtain ⟨w, hw, q⟩ := Fn.res rel2 fin2
  exact ok _ F2 H2 Q x y u v w rel2.pre' (e2.rp a1) a2 hw q
/-- a test -/
theorem bin_tT {p a c : PX} {op : PV → PV → Option Bool} {r : V → V → Hp → (Bool → Hp → Prop) → Prop} (hs : denT cl p = fun ρ => (den cl a ρ).bind fun x ρ => (den cl c ρ).bind fun y ρ => R.of (op x y) ρ)
    (ok : ∀ F H (Q : Bool → Hp → Prop) x y u v w, Rp G F H u x → Rp G F H v y → op u v = some w → Q w H → r x y H Q) : ∀ σ H Q, tT G W cl io p σ H Q → tE G W cl io a σ H fun x H1 => tE G W cl io c σ H1 fun y H2 => r x y H2 Q := fun σ H Q ⟨P, F, ρ, rel, fin⟩ => by
  rw [hs] at fin
  refine ⟨P, F, ρ, rel, Fn.mono (Fn.bind fin) fun x H1 ⟨F1, u, ρ1, e1, rel1, a1, fin1⟩ => ⟨P, F1, ρ1, rel1, Fn.mono (Fn.bind fin1) fun y H2 ⟨F2, v, ρ2, e2, rel2, a2, fin2⟩ => ?_⟩⟩
  obtain ⟨w, hw, q⟩ := Fn.bl rel2 fin2
  exact ok F2 H2 Q x y u v w (e2.rp a1) a2 hw q
/-- a test's value -/
theorem ofT_tE {p : PX} (hs : den cl p = fun ρ => (denT cl p ρ).bind fun b ρ => .ok (.bl b) ρ) : ∀ σ H Q, tE G W cl io p σ H Q → tT G W cl io p σ H fun b H1 => Q (.bl b) H1 := fun σ H Q ⟨P, F, ρ, rel, fin⟩ => by
  rw [hs] at fin
  refine ⟨P, F, ρ, rel, Fn.mono (Fn.bind fin) fun x H1 ⟨F1, u, ρ1, e1, rel1, a1, fin1⟩ => ?_⟩
  obtain rfl : u = x := a1
  exact fin1 F1 H1 _ (Ext.refl rel1.pre) rel1 rp_bl
/-- truth -/
theorem truth_ok {K : PySem.W.Frag} {p : PV} {x : V} {t : Bool} (r : Rp G F H p x) (h : truth p = some t) : TruV K x H t := by
  have emp : ∀ {α β : Type} {xs : List α} {ys : List β}, xs.length = ys.length → (!xs.isEmpty) = !ys.isEmpty := fun {α β xs ys} h => by cases xs <;> cases ys <;> simp_all
  cases p with
  | non => cases h; unfold Rp at r; subst r; rfl
  | bl b => cases h; unfold Rp at r; subst r; rfl
  | int i => cases h; unfold Rp at r; subst r; rfl
  | str s =>
    cases h; unfold Rp at r; obtain ⟨rfl, _, l⟩ := r
    refine ⟨by rw [str_len]; exact l, ?_⟩
    rw [str_len]
    cases s with
    | nil => rfl
    | cons c s =>
      rw [List.length_cons]
      show true = _
      symm
      rw [bne_iff_ne]
      omega
  | tup xs =>
    cases h
    obtain ⟨a, vs, rfl, _, hs, _, ra⟩ := rp_tup (K := K) r
    exact .inr (.inl ⟨vs, hs, emp ra.length⟩)
  | lst xs =>
    cases h
    obtain ⟨a, vs, rfl, _, hs, _, ra⟩ := rp_lst (K := K) r
    exact .inl ⟨vs, hs, emp ra.length⟩
  | dic t ks vs =>
    cases t with
    | true => cases h
    | false =>
      cases h
      unfold Rp at r
      obtain ⟨a, ms, vs, rfl, f, ha, l, z, hk, ra⟩ := r
      refine .inr (.inr ⟨_, ha, emp ?_⟩)
      have e := congrArg List.length hk
      simp only [List.length_map] at e
      rw [List.length_zip, ← l, Nat.min_self, e]
  | scr xs => cases h
  | fn i => cases h
theorem of_tT {p : PX} {K : PySem.W.Frag} (hs : denT cl p = fun ρ => (den cl p ρ).bind fun x ρ => R.of (truth x) ρ) : ∀ σ H Q, tT G W cl io p σ H Q → tE G W cl io p σ H fun x H1 => ∃ k, TruV K x H1 k ∧ Q k H1 := fun σ H Q ⟨P, F, ρ, rel, fin⟩ => by
  rw [hs] at fin
  refine ⟨P, F, ρ, rel, Fn.mono (Fn.bind fin) fun x H1 ⟨F1, u, ρ1, e1, rel1, a1, fin1⟩ => ?_⟩
  obtain ⟨w, hw, q⟩ := Fn.bl rel1 fin1
  exact ⟨w, truth_ok a1 hw, q⟩
theorem of_tI {p : PX} {K : PySem.W.Frag} (hs : denI cl p = fun ρ => (den cl p ρ).bind fun x ρ => R.of (itemsOf x) ρ) : ∀ σ H R, tI G W cl io p σ H R → iAny K (tE G W cl io p) σ H R := fun σ H R ⟨P, F, ρ, rel, fin⟩ => by
  rw [hs] at fin
  refine ⟨P, F, ρ, rel, Fn.mono (Fn.bind fin) fun x H1 ⟨F1, u, ρ1, e1, rel1, a1, fin1⟩ => ?_⟩
  obtain ⟨w, hw, q⟩ := Fn.of fin1
  exact ok_items rel1.pre a1 hw fun J wk => q F1 H1 J (Ext.refl rel1.pre) rel1 wk
end
end Pu
end

section
set_option Elab.async false
set_option linter.all false
set_option maxRecDepth 100000
namespace Pu
open PySem PySem.Spec PyProof.Rows L2 PySem.W RZ

section
variable {G : Th} {W : WX} {cl : Nat → Option (List PV) → List PV → Outc} {P P' F F' : Addr → Prop} {io : Option Addr} {ρ ρ' : Sl} {σ σ' : L2.St} {H H' : Hp}
theorem RelS.monoF {s : Slot} {o : Option (Option V)} (r : RelS G P F H s o) (fz : ∀ a, F a → F' a) (kp : ∀ a u, F a → H a = some u → (∀ ps, u ≠ .tbl ps) → H' a = some u)
    (ho : s.isOwn = true → ∀ a, o = some (some (.ref a)) → H' a = H a ∧ ¬ F' a ∧ ¬ P' a) : RelS G P' F' H' s o := by
  cases s with
  | emp => trivial
  | val p => obtain ⟨x, e1, e2⟩ := r; exact ⟨x, e1, Rp.mono fz kp p x e2⟩
  | own xs =>
    obtain ⟨a, vs, e1, f, p, hh, z, ra⟩ := r
    obtain ⟨k1, k2, k3⟩ := ho rfl a e1
    exact ⟨a, vs, e1, k2, k3, k1.trans hh, z, RpA.mono fz kp xs vs ra⟩
  | ownD t ks ps =>
    cases t with
    | false =>
      obtain ⟨a, ms, vs, e1, f, p, hh, z, z2, hk, ra⟩ := r
      obtain ⟨k1, k2, k3⟩ := ho rfl a e1
      exact ⟨a, ms, vs, e1, k2, k3, k1.trans hh, z, z2, hk, RpA.mono fz kp ps vs ra⟩
    | true =>
      obtain ⟨a, ms, vs, e1, f, p, hh, z, z2, hk, ra⟩ := r
      obtain ⟨k1, k2, k3⟩ := ho rfl a e1
      exact ⟨a, ms, vs, e1, k2, k3, k1.trans hh, z, z2, hk, RpA.mono fz kp ps vs ra⟩
/-- something protected changes -/
def stuff : HO → Bool
  | .tbl _ | .ext _ => false
  | _ => true
theorem stuff_nt {o : HO} (h : stuff o = true) : ∀ ps, o ≠ .tbl ps := fun ps e => by subst e; cases h
theorem tabs_poke {D : Addr} {o u : HO} (t : LamX.Tabs G.T H) (h : H D = some u) (n : stuff u = true) : LamX.Tabs G.T (upd H D o) := fun p hp => by
  obtain ⟨ps, e, r1, r2⟩ := t p hp
  refine ⟨ps, ?_, r1, fun pos cv hc => ?_⟩
  · rw [upd_ne (fun z => ?_)]
    · exact e
    · rw [z, h] at e; cases e; cases n
  · obtain ⟨c, e1, e2⟩ := r2 pos cv hc
    refine ⟨c, e1, ?_⟩
    rw [upd_ne (fun z => ?_)]
    · exact e2
    · rw [z, h] at e2; cases e2; cases n
theorem Rel.poke (r : Rel G P F io ρ σ H) {D : Addr} {o u : HO} (hD : P D) (hu : H D = some u) (nu : stuff u = true) (ho : stuff o = true) : Rel G P F io ρ σ (upd H D o) := by
  have ne : ∀ a, F a → a ≠ D := fun a f z => r.pre.pf D hD (z ▸ f)
  have kp : ∀ a u, F a → H a = some u → (∀ ps, u ≠ .tbl ps) → upd H D o a = some u := fun a u f e _ => by rw [upd_ne (ne a f)]; exact e
  refine ⟨⟨fun a h => ?_, r.pre.pf, tabs_poke r.pre.tabs hu nu, fun a f => ?_⟩, r.len, fun i s h => (r.at_ i s h).monoF (fun _ f => f) kp fun hs a e => ?_, r.apart, r.pin⟩
  · by_cases z : a = D
    · subst z; exact ⟨o, upd_same, stuff_nt ho⟩
    · obtain ⟨w, hw, nw⟩ := r.pre.pd a h
      exact ⟨w, by rw [upd_ne z]; exact hw, nw⟩
  · obtain ⟨w, hw⟩ := r.pre.fd a f
    exact ⟨w, by rw [upd_ne (ne a f)]; exact hw⟩
  · obtain ⟨f, p, _⟩ := r.ownA ⟨i, ⟨s, h, hs⟩, e⟩
    exact ⟨upd_ne fun z => p (z ▸ hD), f, p⟩
theorem Ext.poke (pr : Pre G P F H) {D : Addr} {o u : HO} (hD : ¬ P D) (nF : ¬ F D) (h : H D = some u) (n : stuff u = true) : Ext G P F H F (upd H D o) :=
  ⟨fun _ f => f, fun b w q e _ => by rw [upd_ne (fun z => by subst z; exact q.elim nF hD)]; exact e, pr.pf, fun b w e => by
    by_cases z : b = D
    · subst z; exact ⟨o, upd_same⟩
    · exact ⟨w, by rw [upd_ne z]; exact e⟩, fun t => tabs_poke t h n, fun b f => let ⟨w, e⟩ := pr.fd b f; ⟨w, by rw [upd_ne (fun z => by subst z; exact nF f)]; exact e⟩⟩
/-- a name gets a value -/
theorem Rel.set (r : Rel G P F io ρ σ H) {p : PV} {v : V} {i : Nat} (h0 : ∀ a, io = some a → i ≠ 0) (rp : Rp G F H p v) : Rel G P F io (ρ.set i (.val p)) (σ.set i (some v)) H := by
  refine ⟨r.pre, by rw [List.length_set, List.length_set]; exact r.len, fun j s h => ?_, fun j k a hj hk ej ek => ?_, fun a h => ?_⟩
  · by_cases e : i = j
    · subst e
      rw [List.getElem?_set] at h
      rw [if_pos rfl] at h
      split at h
      · cases h
        rename_i hl
        exact ⟨v, by rw [List.getElem?_set, if_pos rfl, if_pos (by rw [← r.len]; exact hl)], rp⟩
      · cases h
    · rw [List.getElem?_set_ne e] at h
      have := r.at_ j s h
      rw [List.getElem?_set_ne e]; exact this
  · have ne : ∀ {j}, ownB (ρ.set i (.val p)) j → i ≠ j := fun {j} ⟨s, hs, ho⟩ e => by
      subst e
      rw [List.getElem?_set, if_pos rfl] at hs
      split at hs
      · cases hs; cases ho
      · cases hs
    have nj := ne hj
    have nk := ne hk
    obtain ⟨s, hs, ho⟩ := hj
    obtain ⟨t, ht, hu⟩ := hk
    rw [List.getElem?_set_ne nj] at hs
    rw [List.getElem?_set_ne nk] at ht
    rw [List.getElem?_set_ne nj] at ej
    rw [List.getElem?_set_ne nk] at ek
    exact r.apart j k a ⟨s, hs, ho⟩ ⟨t, ht, hu⟩ ej ek
  · rw [List.getElem?_set_ne (h0 a h)]; exact r.pin a h
/-! ### names put away -/
theorem wipeS_len {ρ : Sl} : ∀ vs : List Nat, (wipeS ρ vs).length = ρ.length
  | [] => rfl
  | v :: vs => by unfold wipeS; rw [List.length_set, wipeS_len vs]
theorem wipeS_get {ρ : Sl} {j : Nat} {s : Slot} : ∀ {vs : List Nat}, (wipeS ρ vs)[j]? = some s → (j ∈ vs ∧ s = .emp) ∨ (j ∉ vs ∧ ρ[j]? = some s)
  | [], h => .inr ⟨by simp, h⟩
  | v :: vs, h => by
    unfold wipeS at h
    by_cases e : v = j
    · subst e
      rw [List.getElem?_set, if_pos rfl] at h
      split at h
      · cases h; exact .inl ⟨by simp, rfl⟩
      · cases h
    · rw [List.getElem?_set_ne e] at h
      rcases wipeS_get h with ⟨m, z⟩ | ⟨m, z⟩
      · exact .inl ⟨List.mem_cons_of_mem _ m, z⟩
      · exact .inr ⟨fun q => (List.mem_cons.mp q).elim (fun q => e q.symm) m, z⟩
theorem wipe_notin {σ : L2.St} {j : Nat} : ∀ {vs : List Nat}, j ∉ vs → (wipe σ vs)[j]? = σ[j]?
  | [], _ => rfl
  | v :: vs, h => by
    show ((wipe σ vs).set v none)[j]? = _
    rw [List.getElem?_set_ne (fun z => h (by rw [z]; exact List.mem_cons_self))]
    exact wipe_notin fun z => h (List.mem_cons_of_mem _ z)
theorem wipe_in {σ : L2.St} {j : Nat} : ∀ {vs : List Nat}, j ∈ vs → j < σ.length → (wipe σ vs)[j]? = some none
  | v :: vs, h, hl => by
    show ((wipe σ vs).set v none)[j]? = _
    by_cases e : v = j
    · subst e
      rw [List.getElem?_set, if_pos rfl, if_pos (by rw [wipe_length]; exact hl)]
    · rw [List.getElem?_set_ne e]
      exact wipe_in ((List.mem_cons.mp h).elim (fun z => absurd z.symm e) id) hl
theorem wipe_ext {σ σ' : L2.St} {vs : List Nat} (hl : σ'.length = σ.length) (h : ∀ j, j ∉ vs → σ'[j]? = σ[j]?) : wipe σ' vs = wipe σ vs := by
  refine List.ext_getElem? fun j => ?_
  by_cases m : j ∈ vs
  · by_cases l : j < σ.length
    · rw [wipe_in m l, wipe_in m (by rw [hl]; exact l)]
    · rw [List.getElem?_eq_none (by rw [wipe_length]; omega), List.getElem?_eq_none (by rw [wipe_length]; omega)]
  · rw [wipe_notin m, wipe_notin m, h j m]
theorem Rel.wipe (r : Rel G P F io ρ σ H) {vs : List Nat} (h0 : ∀ a, io = some a → 0 ∉ vs) : Rel G P F io (wipeS ρ vs) (wipe σ vs) H := by
  have ow : ∀ {j}, ownB (wipeS ρ vs) j → j ∉ vs ∧ ownB ρ j := fun {j} ⟨s, hs, ho⟩ => by
    rcases wipeS_get hs with ⟨_, z⟩ | ⟨m, z⟩
    · rw [z] at ho; cases ho
    · exact ⟨m, s, z, ho⟩
  refine ⟨r.pre, by rw [wipeS_len, wipe_length]; exact r.len, fun j s h => ?_, fun j k a hj hk ej ek => ?_, fun a h => ?_⟩
  · rcases wipeS_get h with ⟨_, rfl⟩ | ⟨m, z⟩
    · trivial
    · rw [wipe_notin m]; exact r.at_ j s z
  · obtain ⟨mj, oj⟩ := ow hj
    obtain ⟨mk, ok⟩ := ow hk
    rw [wipe_notin mj] at ej
    rw [wipe_notin mk] at ek
    exact r.apart j k a oj ok ej ek
  · rw [wipe_notin (h0 a h)]; exact r.pin a h
/-- more is protected -/
theorem Rel.protect (r : Rel G P F io ρ σ H) (h : ∀ a, P' a → (∃ o, H a = some o ∧ ∀ ps, o ≠ .tbl ps) ∧ ¬ F a ∧ ¬ OwnA ρ σ a) : Rel G P' F io ρ σ H :=
  ⟨⟨fun a p => (h a p).1, fun a p => (h a p).2.1, r.pre.tabs, r.pre.fd⟩, r.len, fun i s e => (r.at_ i s e).monoF (fun _ f => f) (fun _ _ _ e _ => e) fun ho a q => ⟨rfl, (r.ownA ⟨i, ⟨s, e, ho⟩, q⟩).1, fun z => (h a z).2.2 ⟨i, ⟨s, e, ho⟩, q⟩⟩, r.apart, r.pin⟩
theorem Rel.less (r : Rel G P F io ρ σ H) (h : ∀ a, P' a → P a) : Rel G P' F io ρ σ H :=
  r.protect fun a p => ⟨r.pre.pd a (h a p), r.pre.pf a (h a p), fun z => (r.ownA z).2.1 (h a p)⟩
theorem unwipe_len {ρ ρ' : Sl} : ∀ vs : List Nat, (unwipe ρ' ρ vs).length = ρ'.length
  | [] => rfl
  | v :: vs => by unfold unwipe; rw [List.length_set, unwipe_len vs]
theorem unwipe_get {ρ ρ' : Sl} {j : Nat} {s : Slot} (hl : ρ'.length = ρ.length) : ∀ {vs : List Nat}, (unwipe ρ' ρ vs)[j]? = some s → (j ∈ vs ∧ ρ[j]? = some s) ∨ (j ∉ vs ∧ ρ'[j]? = some s)
  | [], h => .inr ⟨by simp, h⟩
  | v :: vs, h => by
    unfold unwipe at h
    by_cases e : v = j
    · subst e
      rw [List.getElem?_set, if_pos rfl] at h
      split at h
      · rename_i l
        rw [unwipe_len, hl] at l
        refine .inl ⟨by simp, ?_⟩
        rw [List.getElem?_eq_getElem l] at h ⊢
        exact h
      · cases h
    · rw [List.getElem?_set_ne e] at h
      rcases unwipe_get hl h with ⟨m, z⟩ | ⟨m, z⟩
      · exact .inl ⟨List.mem_cons_of_mem _ m, z⟩
      · exact .inr ⟨fun q => (List.mem_cons.mp q).elim (fun q => e q.symm) m, z⟩
/-- what is put away -/
def PW (P : Addr → Prop) (ρ : Sl) (σ : L2.St) (vs : List Nat) : Addr → Prop := fun a => P a ∨ ∃ i ∈ vs, ownB ρ i ∧ σ[i]? = some (some (.ref a))
theorem PW.there {vs : List Nat} (r : Rel G P F io ρ σ H) {a : Addr} (h : PW P ρ σ vs a) : (∃ o, H a = some o ∧ ∀ ps, o ≠ .tbl ps) ∧ ¬ F a := by
  rcases h with h | ⟨i, _, o, e⟩
  · exact ⟨r.pre.pd a h, r.pre.pf a h⟩
  · obtain ⟨f, _, z⟩ := r.ownA ⟨i, o, e⟩
    exact ⟨z, f⟩
theorem Rel.unwipe {vs : List Nat} (r : Rel G P F io ρ σ H) (h0 : ∀ a, io = some a → 0 ∉ vs) (e : Ext G (PW P ρ σ vs) F H F' H') (r' : Rel G P' F' io ρ' (L2.wipe σ vs) H') (hP : ∀ a, PW P ρ σ vs a → P' a) : Rel G P F' io (unwipe ρ' ρ vs) σ H' := by
  have hl : ρ'.length = ρ.length := by rw [r'.len, wipe_length, r.len]
  have ow : ∀ {j a}, ownB (Pu.unwipe ρ' ρ vs) j → σ[j]? = some (some (.ref a)) → (j ∈ vs ∧ ownB ρ j ∧ PW P ρ σ vs a) ∨ (j ∉ vs ∧ ownB ρ' j ∧ ¬ P' a) := fun {j a} ⟨s, hs, ho⟩ q => by
    rcases unwipe_get hl hs with ⟨m, z⟩ | ⟨m, z⟩
    · exact .inl ⟨m, ⟨s, z, ho⟩, .inr ⟨j, m, ⟨s, z, ho⟩, q⟩⟩
    · refine .inr ⟨m, ⟨s, z, ho⟩, (r'.ownA ⟨j, ⟨s, z, ho⟩, by rw [wipe_notin m]; exact q⟩).2.1⟩
  refine ⟨(e.sub fun a h => .inl h).pre r.pre, by rw [unwipe_len]; rw [hl]; exact r.len, fun j s h => ?_, fun j k a hj hk ej ek => ?_, r.pin⟩
  · rcases unwipe_get hl h with ⟨m, z⟩ | ⟨m, z⟩
    · refine (r.at_ j s z).monoF e.fz (fun a u f he n => e.keep a u (.inl f) he n) fun ho a q => ?_
      have pw : PW P ρ σ vs a := .inr ⟨j, m, ⟨s, z, ho⟩, q⟩
      obtain ⟨⟨o, h1, n⟩, _⟩ := pw.there r
      exact ⟨(e.keep a o (.inr pw) h1 n).trans h1.symm, e.prot a pw, (r.ownA ⟨j, ⟨s, z, ho⟩, q⟩).2.1⟩
    · have := r'.at_ j s z
      rw [wipe_notin m] at this
      refine this.monoF (fun _ f => f) (fun _ _ _ e _ => e) fun ho a q => ?_
      obtain ⟨f, p, _⟩ := r'.ownA ⟨j, ⟨s, z, ho⟩, by rw [wipe_notin m]; exact q⟩
      exact ⟨rfl, f, fun z => p (hP a (.inl z))⟩
  · rcases ow hj ej with ⟨m, o, p⟩ | ⟨m, o, p⟩ <;> rcases ow hk ek with ⟨m', o', p'⟩ | ⟨m', o', p'⟩
    · exact r.apart j k a o o' ej ek
    · exact absurd (hP a p) p'
    · exact absurd (hP a p') p
    · exact r'.apart j k a o o' (by rw [wipe_notin m]; exact ej) (by rw [wipe_notin m']; exact ek)
theorem Ext.up (e : Ext G P F H F' H') (k : ∀ b, H b ≠ none → H' b = H b ∧ (F' b → F b)) (pr : Pre G P' F H) : Ext G P' F H F' H' :=
  ⟨e.fz, fun a o q h n => (k a (by rw [h]; exact fun z => nomatch z)).1.trans h, fun a p f => by
    obtain ⟨o, h, n⟩ := pr.pd a p
    exact pr.pf a p ((k a (by rw [h]; exact fun z => nomatch z)).2 f), e.there, e.tabs, e.dom⟩
end

/-! ### targets -/
def tgs : Tg → List Nat
  | .nm i => [i]
  | .tp l => tgs l
  | .nil => []
  | .cons a b => tgs a ++ tgs b
def okTg (C : Ck) (b : Bk) : Tg → Expr ⊕ List Expr → Bool
  | .nm i, .inl (.Name x _) => tgOk C b i x
  | .tp l, .inl (.Tuple es _ _) => okTg C b l (.inr es)
  | .nil, .inr [] => true
  | .cons a r, .inr (e :: es) => notStar e && okTg C b a (.inl e) && okTg C b r (.inr es)
  | _, _ => false
def gT (G : Th) (io : Option Addr) (tg : Tg) : TG := fun v σ H Q => ∃ P F ρ p ρ', Rel G P F io ρ σ H ∧ Rp G F H p v ∧ assignT tg p ρ = some ρ' ∧ ∀ σ', Rel G P F io ρ' σ' H → σ'.length = σ.length → (∀ i, i ∉ tgs tg → σ'[i]? = σ[i]?) → Q σ' H
def gTs (G : Th) (io : Option Addr) (tg : Tg) : TGs := fun vs σ H Q => ∃ P F ρ ps ρ', Rel G P F io ρ σ H ∧ RpA G F H ps vs ∧ assignT tg (.tup ps) ρ = some ρ' ∧ ∀ σ', Rel G P F io ρ' σ' H → σ'.length = σ.length → (∀ i, i ∉ tgs tg → σ'[i]? = σ[i]?) → Q σ' H
section
variable {G : Th} {W : WX} {cl : Nat → Option (List PV) → List PV → Outc} {io : Option Addr} {C : Ck} {b : Bk} {X : Cx}
theorem asgE {e : Expr} {es : List Expr} {env : Env} (h : notStar e = true) : (assignEach (e :: es) env).map (·.2) = assign e env :: (assignEach es env).map (·.2) := by
  cases e <;> first | (cases h; done) | rfl
theorem asgN {env : Env} : ∀ {es : List Expr}, (assignEach es env).length = es.length
  | [] => rfl
  | e :: es => by cases e <;> exact congrArg Nat.succ asgN
theorem asgS {env : Env} : ∀ {es : List Expr}, es.all notStar = true → (assignEach es env).findIdx? (·.1) = none
  | [], _ => rfl
  | e :: es, h => by
    simp only [List.all_cons, Bool.and_eq_true] at h
    have ih := asgS (env := env) h.2
    rw [List.findIdx?_eq_none_iff] at ih ⊢
    intro p hp
    have : assignEach (e :: es) env = (false, assign e env) :: assignEach es env := by cases e <;> first | (cases h.1; done) | rfl
    rw [this] at hp
    rcases List.mem_cons.mp hp with rfl | hp
    · rfl
    · exact ih p hp
theorem tg_ns : ∀ {tg : Tg} {es : List Expr}, okTg C b tg (.inr es) = true → es.all notStar = true
  | .nil, [], _ => rfl
  | .cons a r, e :: es, h => by
    simp only [okTg, Bool.and_eq_true] at h
    simp only [List.all_cons, h.1.1, Bool.true_and]
    exact tg_ns h.2
  | .nm _, _, h => by simp [okTg] at h
  | .tp _, _, h => by simp [okTg] at h
  | .nil, _ :: _, h => by simp [okTg] at h
  | .cons _ _, [], h => by simp [okTg] at h
theorem tg_len : ∀ {tg : Tg} {es : List Expr} {ps : List PV} {ρ ρ' : Sl}, okTg C b tg (.inr es) = true → assignT tg (.tup ps) ρ = some ρ' → ps.length = es.length
  | .nil, [], [], _, _, _, _ => rfl
  | .nil, [], _ :: _, _, _, _, h => by simp [assignT] at h
  | .cons a r, e :: es, [], _, _, _, h => by simp [assignT] at h
  | .cons a r, e :: es, p :: ps, ρ, ρ', h, k => by
    simp only [okTg, Bool.and_eq_true] at h
    simp only [assignT] at k
    cases ha : assignT a p ρ with
    | none => rw [ha] at k; cases k
    | some ρ1 => rw [ha] at k; rw [List.length_cons, List.length_cons, tg_len h.2 k]
  | .nm _, _, _, _, _, h, _ => by simp [okTg] at h
  | .tp _, _, _, _, _, h, _ => by simp [okTg] at h
  | .nil, _ :: _, _, _, _, h, _ => by simp [okTg] at h
  | .cons _ _, [], _, _, _, h, _ => by simp [okTg] at h
theorem tg_both (cx : CX1 G W cl io C b X) : ∀ tg : Tg, (∀ e, okTg C b tg (.inl e) = true → PG X e (gT G io tg)) ∧ (∀ es, okTg C b tg (.inr es) = true → PGs X es (gTs G io tg))
  | .nm i => by
    refine ⟨fun e h => ?_, fun es h => by simp [okTg] at h⟩
    cases e <;> first | (simp [okTg] at h; done) | skip
    rename_i x pos
    obtain ⟨n, l, f, g, h0⟩ := cx.tg (pos := pos) (by simpa [okTg] using h)
    refine pg_imp g fun v σ H Q ⟨P, F, ρ, p, ρ', rel, rp, ha, k⟩ => ?_
    simp only [assignT] at ha
    obtain ⟨_, rfl⟩ := rp_some ha
    refine k _ (rel.set h0 rp) (List.length_set ..) fun j hj => List.getElem?_set_ne fun z => hj (by rw [z]; simp [tgs])
  | .tp l => by
    refine ⟨fun e h => ?_, fun es h => by simp [okTg] at h⟩
    cases e <;> first | (simp [okTg] at h; done) | skip
    rename_i es k pos
    have h : okTg C b l (.inr es) = true := by simpa [okTg] using h
    have g := (tg_both cx l).2 es h
    refine pg_imp (pg_tup (n := es.length) cx.calm g asgN (asgS (tg_ns h))) fun v σ H Q ⟨P, F, ρ, p, ρ', rel, rp, ha, k⟩ => ?_
    cases p <;> first | (simp [assignT] at ha; done) | skip
    rename_i ps
    simp only [assignT] at ha
    obtain ⟨a, vs, rfl, _, hs, _, ra⟩ := rp_tup (K := X.K) rp
    exact ⟨a, vs, rfl, hs, by rw [← ra.length]; exact tg_len h ha, P, F, ρ, ps, ρ', rel, ra, ha, k⟩
  | .nil => by
    refine ⟨fun e h => by simp [okTg] at h, fun es h => ?_⟩
    cases es with
    | cons _ _ => simp [okTg] at h
    | nil =>
      refine ⟨fun pins s σ H vs us Q I r ⟨P, F, ρ, ps, ρ', rel, ra, ha, k⟩ => ?_⟩
      cases ps with
      | cons _ _ => simp [assignT] at ha
      | nil =>
        simp only [assignT] at ha
        cases ha
        rw [ra.inv0] at r
        exact pgs_nil.run pins s σ H [] us Q I r ⟨rfl, k σ rel rfl fun _ _ => rfl⟩
  | .cons a r => by
    refine ⟨fun e h => by simp [okTg] at h, fun es h => ?_⟩
    cases es with
    | nil => simp [okTg] at h
    | cons e es =>
      simp only [okTg, Bool.and_eq_true] at h
      have g1 := (tg_both cx a).1 e h.1.2
      have g2 := (tg_both cx r).2 es h.2
      have g := pgs_cons g1 g2 (asgE h.1.1)
      refine ⟨fun pins s σ H vs us Q I rv ⟨P, F, ρ, ps, ρ', rel, ra, ha, k⟩ => g.run pins s σ H vs us Q I rv ?_⟩
      cases ps with
      | nil => simp [assignT] at ha
      | cons p ps =>
        obtain ⟨v, ws, rfl, r1, r2⟩ := ra.inv
        simp only [assignT] at ha
        cases ha' : assignT a p ρ with
        | none => rw [ha'] at ha; cases ha
        | some ρ1 =>
          rw [ha'] at ha
          refine ⟨v, ws, rfl, P, F, ρ, p, ρ1, rel, r1, ha', fun σ1 rel1 l1 o1 => ⟨P, F, ρ1, ps, ρ', rel1, r2, ha, fun σ2 rel2 l2 o2 => k σ2 rel2 (l2.trans l1) fun i hi => ?_⟩⟩
          simp only [tgs, List.mem_append, not_or] at hi
          exact (o2 i hi.2).trans (o1 i hi.1)
end
end Pu
end

section
set_option Elab.async false
set_option linter.all false
set_option maxRecDepth 100000
namespace Pu
open PySem PySem.Spec PyProof.Rows L2 PySem.W RZ

/-- no exception is let out -/
abbrev W0 : WX := fun _ _ _ _ => False
theorem drop_cons {α : Type} {xs : List α} {i : Nat} {x : α} (h : xs[i]? = some x) : xs.drop i = x :: xs.drop (i + 1) := by
  have hi : i < xs.length := by
    by_cases l : i < xs.length
    · exact l
    · rw [List.getElem?_eq_none (by omega)] at h; cases h
  rw [List.drop_eq_getElem_cons hi]
  rw [List.getElem?_eq_getElem hi] at h
  rw [Option.some.inj h]
section
variable {G : Th} {W : WX} {cl : Nat → Option (List PV) → List PV → Outc} {io : Option Addr} {C : Ck} {b : Bk} {X : Cx} {P F : Addr → Prop} {ρ : Sl} {σ : L2.St} {H : Hp}
/-- a turn that passes its test -/
theorem comp_true {vs : List Nat} {tg : PV → Sl → Option Sl} {c : Sl → R Bool} {e : Sl → R PV} {p : PV} {xs ys : List PV} {ρ ρe : Sl} (h : compLoop vs tg c e (p :: xs) ρ = .ok ys ρe) :
    ∃ ρ1, tg p ρ = some ρ1 ∧ ((∃ ρ2 y ρ3 ys', c ρ1 = .ok true ρ2 ∧ e ρ2 = .ok y ρ3 ∧ ys = y :: ys' ∧ compLoop vs tg c e xs (wipeS ρ3 vs) = .ok ys' ρe) ∨ ∃ ρ2, c ρ1 = .ok false ρ2 ∧ compLoop vs tg c e xs (wipeS ρ2 vs) = .ok ys ρe) := by
  unfold compLoop at h
  split at h
  · cases h
  · rename_i ρ1 h1
    refine ⟨ρ1, h1, ?_⟩
    split at h
    · rename_i ρ2 h2
      split at h
      · rename_i y ρ3 h3
        cases hr : compLoop vs tg c e xs (wipeS ρ3 vs) with
        | ok ys' ρ' =>
          rw [hr] at h
          cases h
          exact .inl ⟨ρ2, y, ρ3, ys', h2, h3, rfl, hr⟩
        | exc _ _ _ => rw [hr] at h; cases h
        | stuck => rw [hr] at h; cases h
      · cases h
    · rename_i ρ2 h2
      exact .inr ⟨ρ2, h2, h⟩
    · cases h
theorem comp_tF {vs : List Nat} {tg : Tg} {it c e : PX} (hv : ∀ i ∈ tgs tg, i ∈ vs) (h0 : ∀ a, io = some a → 0 ∉ vs) : ∀ σ H Q, tF G W cl io (.comp vs tg it c e) σ H Q →
    tLc (tI G W cl io it) (gT G io tg) (tC G W0 cl io c) (tE G W0 cl io e) vs σ H Q := fun σ H Q ⟨P, F, ρ, rel, fin⟩ => by
  refine ⟨P, F, ρ, rel, Fn.mono (Fn.bind (A := AI G P) fin) fun J H1 ⟨F1, xs, ρ1, e1, rel1, wk, fin1⟩ D hD => ?_⟩
  unfold compP at fin1
  split at fin1
  case isFalse => exact fin1.elim
  rename_i hbig
  split at fin1
  case h_2 => exact fin1.elim
  rename_i ys ρe hloop
  obtain ⟨P2, hP2⟩ : ∃ P2 : Addr → Prop, P2 = fun a => PW P ρ1 σ vs a ∨ a = D := ⟨_, rfl⟩
  have nD : ∀ a, PW P ρ1 σ vs a → a ≠ D := fun a pw z => by
    obtain ⟨⟨o, h, _⟩, _⟩ := pw.there rel1
    rw [z, hD] at h; cases h
  have fD : ¬ F1 D := rel1.pre.freshF hD
  have hP2D : P2 D := by rw [hP2]; exact .inr rfl
  have sub : ∀ a, PW P ρ1 σ vs a → P2 a := fun a h => by rw [hP2]; exact .inl h
  have subP : ∀ a, P a → P2 a := fun a h => sub a (.inl h)
  have preW : Pre G (PW P ρ1 σ vs) F1 H1 := ⟨fun a h => (h.there rel1).1, fun a h => (h.there rel1).2, rel1.pre.tabs, rel1.pre.fd⟩
  have ePW : Ext G (PW P ρ1 σ vs) F1 H1 F1 (upd H1 D (.lst [])) := Ext.fresh preW hD
  -- the start
  have relW : Rel G P2 F1 io (wipeS ρ1 vs) (L2.wipe σ vs) (upd H1 D (.lst [])) := by
    have r1 : Rel G P F1 io ρ1 σ (upd H1 D (.lst [])) := rel1.step (Ext.fresh rel1.pre' hD)
    refine (r1.wipe h0).protect fun a pa => ?_
    rw [hP2] at pa
    have ow : OwnA (wipeS ρ1 vs) (L2.wipe σ vs) a → ∃ j, j ∉ vs ∧ ownB ρ1 j ∧ σ[j]? = some (some (.ref a)) := fun ⟨j, ⟨s, hs, ho⟩, q⟩ => by
      rcases wipeS_get hs with ⟨_, z⟩ | ⟨m, z⟩
      · rw [z] at ho; cases ho
      · exact ⟨j, m, ⟨s, z, ho⟩, by rw [wipe_notin m] at q; exact q⟩
    rcases pa with pa | rfl
    · obtain ⟨⟨o, h, n⟩, f⟩ := pa.there rel1
      refine ⟨⟨o, by rw [upd_ne (nD a pa)]; exact h, n⟩, f, fun oa => ?_⟩
      obtain ⟨j, m, oj, q⟩ := ow oa
      rcases pa with pa | ⟨i, hi, oi, q'⟩
      · exact (rel1.ownA ⟨j, oj, q⟩).2.1 pa
      · exact m (rel1.apart i j a oi oj q' q ▸ hi)
    · refine ⟨⟨_, upd_same, fun _ z => nomatch z⟩, fD, fun oa => ?_⟩
      obtain ⟨j, m, oj, q⟩ := ow oa
      obtain ⟨_, _, u, hu, _⟩ := rel1.ownA ⟨j, oj, q⟩
      rw [hD] at hu; cases hu
  have w : Walk J xs.length (fun H2 => ∃ F2, Ext G P F1 H1 F2 H2) fun i H2 x H3 => J.yld i H2 x H3 := ⟨fun i H2 hi ⟨F2, q⟩ => (wk F2 H2 q).1 i hi, fun H2 ⟨F2, q⟩ => (wk F2 H2 q).2.1, fun i H2 x H3 hi _ y => y⟩
  refine lc_it w (fun i H2 => ∃ F2 ρi acc ps rest, Ext G (PW P ρ1 σ vs) F1 H1 F2 H2 ∧ Rel G P2 F2 io ρi (L2.wipe σ vs) H2 ∧ H2 D = some (.lst acc) ∧ RpA G F2 H2 ps acc ∧ acc.length ≤ i ∧
      compLoop vs (assignT tg) (cOf c (sem cl c)) (sem cl e).v (xs.drop i) ρi = .ok rest ρe ∧ ys = ps ++ rest) ?_ ?_ ?_ ?_
  · exact ⟨F1, wipeS ρ1 vs, [], [], ys, ePW, relW, upd_same, RpA.nil, Nat.le_refl _, by simpa using hloop, rfl⟩
  · rintro i H2 _ ⟨F2, _, _, _, _, q, _⟩
    exact ⟨F2, q.sub fun a h => .inl h⟩
  · rintro i x H2 H3 hi ⟨F2, ρi, acc, ps, rest, e2, rel2, hacc, ra, la, hl, rfl⟩ y
    obtain ⟨F3, p, e3, k3, hp, rp⟩ := (wk F2 H2 (e2.sub fun a h => .inl h)).2.2 i x H3 hi y
    have e3' : Ext G P2 F2 H2 F3 H3 := e3.up k3 rel2.pre
    have rel3 : Rel G P2 F3 io ρi (L2.wipe σ vs) H3 := rel2.step (e3.up k3 rel2.pre')
    rw [drop_cons hp] at hl
    obtain ⟨ρa, hta, hcase⟩ := comp_true hl
    refine ⟨P2, F3, ρi, p, ρa, rel3, rp, hta, fun σ2 rela l2 o2 => ?_⟩
    have hw2 : L2.wipe σ2 vs = L2.wipe σ vs := by
      refine wipe_ext (by rw [l2, wipe_length]) fun j hj => ?_
      rw [o2 j fun z => hj (hv j z), wipe_notin hj]
    refine ⟨hw2, ?_⟩
    have relw : ∀ {ρx F4 H4}, Rel G P2 F4 io ρx σ2 H4 → Rel G P2 F4 io (wipeS ρx vs) (L2.wipe σ vs) H4 := fun {ρx F4 H4} r => by rw [← hw2]; exact r.wipe h0
    rcases hcase with ⟨ρ2, yv, ρ3, ys', hc, hee, hys, hrest⟩ | ⟨ρ2, hc, hrest⟩
    · refine ⟨P2, F3, ρa, rela, ?_⟩
      rw [hc]
      intro F4 H4 t e4 rel4 ht
      have ht : true = t := ht
      subst ht
      rw [if_pos rfl]
      refine ⟨P2, F4, ρ2, rel4, ?_⟩
      show Fn G P2 io W0 (AV G) F4 σ2 H4 ((sem cl e).v ρ2) _
      rw [hee]
      intro F5 H5 z e5 rel5 rz
      have e25 : Ext G P2 F2 H2 F5 H5 := (e3'.trans e4).trans e5
      have hD5 : H5 D = some (.lst acc) := e25.keep D _ (.inr hP2D) hacc fun _ z => nomatch z
      have fD5 : ¬ F5 D := rel5.pre.pf D hP2D
      have pre5 : Pre G (PW P ρ1 σ vs) F5 H5 := (e25.sub sub).pre (e2.pre preW)
      have ep : Ext G (PW P ρ1 σ vs) F5 H5 F5 (upd H5 D (.lst (acc ++ [z]))) := Ext.poke pre5 (fun pw => nD D pw rfl) fD5 hD5 rfl
      refine ⟨acc, hD5, by have : xs.length ≤ sizeLine := le_line hbig; omega, F5, wipeS ρ3 vs, acc ++ [z], ps ++ [yv], ys', (e2.trans (e25.sub sub)).trans ep, (relw rel5).poke hP2D hD5 rfl rfl, upd_same, ?_, by rw [List.length_append, List.length_singleton]; omega, hrest, by rw [hys]; simp⟩
      exact (ep.rpA (e25.rpA ra)).append (RpA.cons (ep.rp rz) RpA.nil)
    · refine ⟨P2, F3, ρa, rela, ?_⟩
      rw [hc]
      intro F4 H4 t e4 rel4 ht
      have ht : false = t := ht
      subst ht
      rw [if_neg (by simp)]
      have e24 : Ext G P2 F2 H2 F4 H4 := e3'.trans e4
      exact ⟨F4, wipeS ρ2 vs, acc, ps, rest, e2.trans (e24.sub sub), relw rel4, e24.keep D _ (.inr hP2D) hacc (fun _ z => nomatch z), e24.rpA ra, by omega, hrest, rfl⟩
  · rintro H2 ⟨F2, ρi, acc, ps, rest, e2, rel2, hacc, ra, la, hl, rfl⟩
    rw [List.drop_length] at hl
    unfold compLoop at hl
    cases hl
    have relE : Rel G P F2 io (unwipe ρe ρ1 vs) σ H2 := rel1.unwipe h0 e2 rel2 sub
    have lz : acc.length ≤ sizeLine := Nat.le_trans la (le_line hbig)
    refine fin1 F2 H2 (.ref D) (e2.sub fun a h => .inl h) relE (.inr ⟨D, rfl, e1.nope hD, rel2.pre.pf D hP2D, fun ⟨j, ⟨s, hs, ho⟩, q⟩ => ?_, .inl ⟨ps ++ [], acc, rfl, hacc, lz, by rw [List.append_nil]; exact ra⟩⟩)
    have hl2 : ρe.length = ρ1.length := by rw [rel2.len, wipe_length, rel1.len]
    rcases unwipe_get hl2 hs with ⟨m, z⟩ | ⟨m, z⟩
    · obtain ⟨_, _, u, hu, _⟩ := rel1.ownA ⟨j, ⟨s, z, ho⟩, q⟩
      rw [hD] at hu; cases hu
    · exact (rel2.ownA ⟨j, ⟨s, z, ho⟩, by rw [wipe_notin m]; exact q⟩).2.1 hP2D
end
end Pu
end

section
set_option Elab.async false
set_option linter.all false
set_option maxRecDepth 100000
namespace Pu
open PySem PySem.Spec PyProof.Rows L2 PySem.W RZ

section
variable {G : Th} {W : WX} {cl : Nat → Option (List PV) → List PV → Outc} {io : Option Addr} {C : Ck} {b : Bk} {X : Cx} {P F F' : Addr → Prop} {ρ : Sl} {σ : L2.St} {H H' : Hp}
/-- what a name holds is another thing of its own -/
theorem Rel.own (r : Rel G P F io ρ σ H) {i : Nat} {s s' : Slot} {a : Addr} (hi : ρ[i]? = some s) (ho : s.isOwn = true) (ha : σ[i]? = some (some (.ref a))) (e : Ext G (fun b => (P b ∨ OwnA ρ σ b) ∧ b ≠ a) F H F' H')
    (rs : RelS G P F' H' s' (σ[i]?)) (ho' : s'.isOwn = true) : Rel G P F' io (ρ.set i s') σ H' := by
  have nP : ¬ P a := (r.ownA ⟨i, ⟨s, hi, ho⟩, ha⟩).2.1
  have ow : ∀ {j}, ownB (ρ.set i s') j → ownB ρ j := fun {j} ⟨t, ht, hto⟩ => by
    by_cases z : i = j
    · subst z; exact ⟨s, hi, ho⟩
    · rw [List.getElem?_set_ne z] at ht; exact ⟨t, ht, hto⟩
  refine ⟨(e.sub fun b p => ⟨.inl p, fun z => nP (z ▸ p)⟩).pre r.pre, by rw [List.length_set]; exact r.len, fun j t ht => ?_, fun j k c hj hk => r.apart j k c (ow hj) (ow hk), r.pin⟩
  by_cases z : i = j
  · subst z
    rw [List.getElem?_set, if_pos rfl] at ht
    split at ht
    · cases ht; exact rs
    · cases ht
  · rw [List.getElem?_set_ne z] at ht
    refine (r.at_ j t ht).monoF e.fz (fun c u f h n => e.keep c u (.inl f) h n) fun hto c q => ?_
    have oc : OwnA ρ σ c := ⟨j, ⟨t, ht, hto⟩, q⟩
    have nc : c ≠ a := fun w => z (r.apart i j a ⟨s, hi, ho⟩ ⟨t, ht, hto⟩ ha (w ▸ q))
    obtain ⟨_, p, u, hu, n⟩ := r.ownA oc
    exact ⟨(e.keep c u (.inr ⟨.inr oc, nc⟩) hu n).trans hu.symm, e.prot c ⟨.inr oc, nc⟩, p⟩
/-- a value, or a thing of one's own as it stands -/
theorem RelS.peek {s : Slot} {o : Option (Option V)} {p : PV} (r : RelS G P F H s o) (h : s.rd = some p) : ∃ x, o = some (some x) ∧ (Rp G F H p x ∨ ∃ a, x = .ref a ∧ Obj_ G F H p a) := by
  cases s with
  | emp => cases h
  | val q => cases h; obtain ⟨x, e, rp⟩ := r; exact ⟨x, e, .inl rp⟩
  | own xs => cases h; obtain ⟨a, vs, e, f, p, hh, z, ra⟩ := r; exact ⟨_, e, .inr ⟨a, rfl, .inl ⟨xs, vs, rfl, hh, z, ra⟩⟩⟩
  | ownD t ks ps =>
    cases h
    cases t with
    | false => obtain ⟨a, ms, vs, e, f, p, hh, z, z2, hk, ra⟩ := r; exact ⟨_, e, .inr ⟨a, rfl, .inr (.inl ⟨ks, ps, ms, vs, rfl, hh, z, z2, hk, ra⟩)⟩⟩
    | true => obtain ⟨a, ms, vs, e, f, p, hh, z, z2, hk, ra⟩ := r; exact ⟨_, e, .inr ⟨a, rfl, .inr (.inr ⟨ks, ps, ms, vs, rfl, hh, z, z2, hk, ra⟩)⟩⟩
theorem Rel.peek (r : Rel G P F io ρ σ H) {i : Nat} {p : PV} (h : peek i ρ = some p) : ∃ x, σ[i]? = some (some x) ∧ (Rp G F H p x ∨ ∃ a, x = .ref a ∧ Obj_ G F H p a) := by
  unfold Pu.peek at h
  cases e : ρ[i]? with
  | none => rw [e] at h; cases h
  | some s => rw [e] at h; exact (r.at_ i s e).peek h
theorem rpO_val {p : PV} {x : V} (pr : Pre G P F H) (h : Rp G F H p x ∨ ∃ a, x = .ref a ∧ Obj_ G F H p a) : ∃ F', Rp G F' H p x ∧ (∀ a, F a → F' a) ∧ Pre G (fun _ => False) F' H := by
  rcases h with h | ⟨a, rfl, h⟩
  · exact ⟨F, h, fun _ z => z, ⟨fun _ z => z.elim, fun _ z => z.elim, pr.tabs, pr.fd⟩⟩
  · have fz : ∀ b, F b → (b = a ∨ F b) := fun b z => .inr z
    have kp : ∀ b o, F b → H b = some o → (∀ ps, o ≠ .tbl ps) → H b = some o := fun _ _ _ e _ => e
    have ex : ∃ o, H a = some o := by
      rcases h with ⟨us, ws, rfl, hb, _⟩ | ⟨ks, us, ms, ws, rfl, hb, _⟩ | ⟨ks, us, ms, ws, rfl, hb, _⟩ <;> exact ⟨_, hb⟩
    refine ⟨fun b => b = a ∨ F b, ?_, fz, ⟨fun _ z => z.elim, fun _ z => z.elim, pr.tabs, fun b z => z.elim (fun z => z ▸ ex) (pr.fd b)⟩⟩
    rcases h with ⟨us, ws, rfl, hb, hz, ra⟩ | ⟨ks, us, ms, ws, rfl, hb, hz, hz2, hk, ra⟩ | ⟨ks, us, ms, ws, rfl, hb, hz, hz2, hk, ra⟩
    · unfold Rp; exact ⟨a, ws, rfl, .inl rfl, hb, hz, RpA.mono fz kp _ _ ra⟩
    · unfold Rp; exact ⟨a, ms, ws, rfl, .inl rfl, hb, hz, hz2, hk, RpA.mono fz kp _ _ ra⟩
    · unfold Rp; exact ⟨a, ms, ws, rfl, .inl rfl, hb, hz, hz2, hk, RpA.mono fz kp _ _ ra⟩
theorem ok_ixO {K : PySem.W.Frag} {p q v : PV} {x y : V} {Q : VK} (rx : Rp G F H p x ∨ ∃ a, x = .ref a ∧ Obj_ G F H p a) (ry : Rp G F H q y) (hv : index p q = some v) (h : ∀ z, Rp G F H v z → Q z H) : rIxA K x y H Q := by
  rcases rx with rx | ⟨a, rfl, ob⟩
  · exact ok_ix rx ry hv h
  · rcases ob with ⟨us, ws, rfl, hb, hz, ra⟩ | ⟨ks, us, ms, ws, rfl, hb, hz, hz2, hk, ra⟩ | ⟨ks, us, ms, ws, rfl, hb, hz, hz2, hk, ra⟩
    · cases q <;> first | (cases hv; done) | skip
      unfold Rp at ry; subst ry
      obtain ⟨z, hz, rz⟩ := at_get (show at_ us _ = some v from hv) ra
      exact .inl (.inl ⟨a, ws, _, z, rfl, rfl, SqL.of hb, hz, h z rz⟩)
    · have hv : (keyOf false q).bind (dget ks us) = some v := by cases q <;> exact hv
      cases hkk : keyOf false q with
      | none => rw [hkk] at hv; cases hv
      | some k =>
        rw [hkk] at hv
        obtain ⟨o, g1, _, g2, _⟩ := dget_of hkk ry (.inl ⟨rfl, ms, ws, hb, hz, hz2, hk, ra⟩)
        obtain ⟨z, rfl, rz⟩ := g2 v hv
        exact .inr ⟨a, z, rfl, g1, h z rz⟩
    · have hv : (keyOf true q).bind (dget ks us) = some v := by cases q <;> exact hv
      cases hkk : keyOf true q with
      | none => rw [hkk] at hv; cases hv
      | some k =>
        rw [hkk] at hv
        obtain ⟨o, g1, _, g2, _⟩ := dget_of hkk ry (.inr ⟨rfl, ms, ws, hb, hz, hz2, hk, ra⟩)
        obtain ⟨z, rfl, rz⟩ := g2 v hv
        exact .inr ⟨a, z, rfl, g1, h z rz⟩

/-! ### calls -/
theorem pe_callSN {CX : CXT} {k : Nat} {f : Addr} {fd : FuncData} {ps : List Str} {sp : Sp} {E : L2.St → XK} {x : Str} {p pos : Pos} (Fk : FnOk X.prog X.w X.K X.mg X.base CX k f fd ps sp) (hr : Room k X.A) (hg : Gl X x) (hm : X.mg x = some (.ref f)) (hk : PySem.W.keepIn X.K (.ref f) = true) (hb : Binds X.K fd ps []) (hx : ∀ σ, PassesAt CX X σ (E σ))
    (hdb : (x == ("__debug__" : Str)) = false) : PE X (.Call (.Name x p) [] [] pos) (tCallS sp E tNil) := by
  refine ⟨fun pins s σ H Q I h => ?_⟩
  refine wpAny_Call_Name_kw (ld_glob I hg hm ?_ hdb)
  exact PySem.W.callWith_K0 I.kIn hk (run_fnS (us := []) Fk hr hb (hx σ) I .nil h)
theorem call_tE {f : Nat} {fn : PFn} {l : PX} (cx : CX1 G W cl io C b X) (hf : C.tb[f]? = some fn) (hio : fn.io = false) (hfr : fn.fr = false) : ∀ σ H Q, tE G W cl io (.call f l) σ H Q → tCallS (spOf G cl f fn) (WE W) (tA G W cl io l) σ H Q := fun σ H Q ⟨P, F, ρ, rel, fin⟩ => by
  refine ⟨P, F, ρ, rel, Fn.mono (Fn.bind (A := AA G) fin) fun vs H1 ⟨F1, y, ρ1, e1, rel1, ⟨ps, ey, ra⟩, fin1⟩ => ?_⟩
  subst ey
  have fin1 : Fn G P io W (AV G) F1 σ H1 (callR (cl f none ps) ρ1) Q := fin1
  unfold spOf; rw [if_neg (by rw [hio]; simp)]
  have hlen : vs.length = fn.ar := by
    have := cx.fit f fn none ps hf (fun z => by rw [z] at fin1; exact fin1)
    rw [← ra.length]; simpa using this.1
  refine ⟨hlen, fun a => P a ∨ OwnA ρ1 σ a, F1, ps, rel1.pre', ra, ?_⟩
  cases h : cl f none ps with
  | val v _ =>
    rw [h] at fin1
    show OutF G _ F1 H1 fn.fr v Q
    unfold OutF; rw [hfr, if_neg (by simp)]
    exact fun F' H' z e rz => fin1 F' H' z (e.sub fun _ q => .inl q) (rel1.step e) rz
  | exc c ws _ =>
    rw [h] at fin1
    exact fun F' H' d e x => fin1 F' H' d (e.sub fun _ q => .inl q) (rel1.step e) x
  | stuck => rw [h] at fin1; exact fin1
theorem call_tF {f : Nat} {fn : PFn} {l : PX} (cx : CX1 G W cl io C b X) (hf : C.tb[f]? = some fn) (hio : fn.io = false) (hfr : fn.fr = true) : ∀ σ H Q, tF G W cl io (.callF f l) σ H Q → tCallS (spOf G cl f fn) (WE W) (tA G W cl io l) σ H Q := fun σ H Q ⟨P, F, ρ, rel, fin⟩ => by
  refine ⟨P, F, ρ, rel, Fn.mono (Fn.bind (A := AA G) fin) fun vs H1 ⟨F1, y, ρ1, e1, rel1, ⟨ps, ey, ra⟩, fin1⟩ => ?_⟩
  subst ey
  have fin1 : Fn G P io W (AF G σ H) F1 σ H1 (callR (cl f none ps) ρ1) Q := fin1
  unfold spOf; rw [if_neg (by rw [hio]; simp)]
  have hlen : vs.length = fn.ar := by
    have := cx.fit f fn none ps hf (fun z => by rw [z] at fin1; exact fin1)
    rw [← ra.length]; simpa using this.1
  refine ⟨hlen, fun a => P a ∨ OwnA ρ1 σ a, F1, ps, rel1.pre', ra, ?_⟩
  cases h : cl f none ps with
  | val v _ =>
    rw [h] at fin1
    show OutF G _ F1 H1 fn.fr v Q
    unfold OutF; rw [hfr, if_pos rfl]
    obtain ⟨w, hw, q⟩ := Fn.resB (o := some v) (fun b hb => e1.nope hb) rel1 fin1
    cases hw
    exact q
  | exc c ws _ =>
    rw [h] at fin1
    exact fun F' H' d e x => fin1 F' H' d (e.sub fun _ q => .inl q) (rel1.step e) x
  | stuck => rw [h] at fin1; exact fin1
theorem callIO_tE {f i : Nat} {fn : PFn} {l : PX} (cx : CX1 G W cl io C b X) (hf : C.tb[f]? = some fn) (hio : fn.io = true) : ∀ σ H Q, tE G W cl io (.callIO f i l) σ H Q → tCallS (spOf G cl f fn) (WE W) (tCons (tVar i) (tA G W cl io l)) σ H Q := fun σ H Q ⟨P, F, ρ, rel, fin⟩ => by
  have fin : Fn G P io W (AV G) F σ H (if (peek i ρ).isSome then ((sem cl l).v ρ).bind (callPIO cl f i) else .stuck) Q := fin
  split at fin
  case isFalse => exact fin.elim
  rename_i hpk
  obtain ⟨p0, hp0⟩ := Option.isSome_iff_exists.mp hpk
  obtain ⟨x, hx, _⟩ := rel.peek hp0
  refine ⟨x, hx, P, F, ρ, rel, Fn.mono (Fn.bind (A := AA G) fin) fun vs H1 ⟨F1, y, ρ1, e1, rel1, ⟨ps, ey, ra⟩, fin1⟩ => ?_⟩
  subst ey
  unfold callPIO at fin1
  split at fin1
  case h_2 => exact fin1.elim
  rename_i ys' ys hy hown
  cases hy
  obtain ⟨a, us, ea, nf, np, ha, hz, rxs⟩ := rel1.at_ i _ hown
  rw [hx] at ea
  cases ea
  unfold spOf; rw [if_pos (by rw [hio])]
  have hlen : (V.ref a :: vs).length = fn.ar := by
    have := cx.fit f fn (some ys) ps hf (fun z => by rw [z] at fin1; exact fin1)
    rw [List.length_cons, ← ra.length]; simpa using this.1
  have setO : ∀ {F' H' zs ws}, Ext G (fun b => (P b ∨ OwnA ρ1 σ b) ∧ b ≠ a) F1 H1 F' H' → ¬ F' a → H' a = some (.lst ws) → ws.length ≤ sizeLine → RpA G F' H' zs ws → Rel G P F' io (ρ1.set i (.own zs)) σ H' := fun {F' H' zs ws} e nf' ha' z' r' =>
    rel1.own hown rfl hx e (by rw [hx]; exact ⟨a, ws, rfl, nf', np, ha', z', r'⟩) rfl
  have sub : ∀ {F' H'}, Ext G (fun b => (P b ∨ OwnA ρ1 σ b) ∧ b ≠ a) F1 H1 F' H' → Ext G P F1 H1 F' H' := fun {F' H'} e => e.sub fun b pb => ⟨.inl pb, fun z => np (z ▸ pb)⟩
  refine ⟨hlen, fun b => (P b ∨ OwnA ρ1 σ b) ∧ b ≠ a, F1, ps, a, vs, ys, us, rfl, ⟨fun b q => rel1.pre'.pd b q.1, fun b q => rel1.pre'.pf b q.1, rel1.pre.tabs, rel1.pre.fd⟩, nf, fun q => q.2 rfl, ha, hz, rxs, ra, ?_⟩
  cases h : cl f (some ys) ps with
  | val v zs =>
    rw [h] at fin1
    exact fun F' H' z ws e nf' ha' z' r' rz => fin1 F' H' z (sub e) (setO e nf' ha' z' r') rz
  | exc c es zs =>
    rw [h] at fin1
    exact fun F' H' d ws e nf' ha' z' r' x => fin1 F' H' d (sub e) (setO e nf' ha' z' r') x
  | stuck => rw [h] at fin1; exact fin1
end
end Pu
end

section
set_option Elab.async false
set_option linter.all false
set_option maxRecDepth 100000
namespace Pu
open PySem PySem.Spec PyProof.Rows L2 PySem.W RZ

/-! ### forms of expressions -/
def flatSame : PV → PV → Bool
  | .int i, .int j => decide (i = j)
  | .str i, .str j => decide (i = j)
  | _, _ => false
theorem flatSame_eq {p q : PV} (h : flatSame p q = true) : p = q := by
  unfold flatSame at h
  split at h
  · rw [of_decide_eq_true h]
  · rw [of_decide_eq_true h]
  · cases h
def okK (C : Ck) (b : Bk) (c : PV) : Expr → Bool
  | .Constant (.int j) _ _ => (match c with | .int i => decide (i = j) | _ => false)
  | .Constant (.bool j) _ _ => (match c with | .bl i => i == j | _ => false)
  | .Constant .none _ _ => c.isNon
  | .Constant (.str x) _ _ => (match c with | .str s => decide (strV s = x) && PyData.strOk (strV s) && decide (s.length ≤ big) | _ => false)
  | .Name x _ => (match glO C b x with
    | some (.cst c') => flatSame c c'
    | some (.fn f) => (match c with | .fn g => f == g | _ => false)
    | _ => false)
  | _ => false
def shName : Expr → Option Str
  | .Name x _ => some x
  | _ => none
def shBin (o : Operator) : Expr → Option (Expr × Expr)
  | .BinOp l p r _ => if p = o then some (l, r) else none
  | _ => none
def shUn (o : UnaryOp) : Expr → Option Expr
  | .UnaryOp p e _ => if p = o then some e else none
  | _ => none
def shOne : Expr → Option Expr
  | .BoolOp _ [e] _ => some e
  | _ => none
def shBool (o : BoolOp) : Expr → Option (Expr × Expr)
  | .BoolOp p (e :: e2 :: r) pos => if p = o then some (e, .BoolOp o (e2 :: r) pos) else none
  | _ => none
def shIf : Expr → Option (Expr × Expr × Expr)
  | .IfExp c a b _ => some (c, a, b)
  | _ => none
def shCmp (o : CmpOp) : Expr → Option (Expr × Expr)
  | .Compare l [p] [r] _ => if p = o && notSet r then some (l, r) else none
  | _ => none
def shChain (o o' : CmpOp) : Expr → Option (Expr × Expr × Expr)
  | .Compare l [p, p'] [r, r'] _ => if p = o && p' = o' && notSet r' then some (l, r, r') else none
  | _ => none
def shTup : Expr → Option (List Expr)
  | .Tuple es _ _ => some es
  | _ => none
def shLst : Expr → Option (List Expr)
  | .List es _ => some es
  | _ => none
def shIx : Expr → Option (Expr × Expr)
  | .Subscript x y _ => if plainIx y then some (x, y) else none
  | _ => none
def shSl : Expr → Option (Expr × Option Expr × Option Expr)
  | .Subscript x (.Slice l h none _) _ => some (x, l, h)
  | _ => none
def shCall : Expr → Option (Str × List Expr)
  | .Call (.Name x _) es [] _ => if es.all notStar then some (x, es) else none
  | _ => none
def shRev : Expr → Option Expr
  | .Subscript x (.Slice none none (some (.UnaryOp .USub (.Constant (.int 1) _ _) _)) _) _ => some x
  | _ => none
def shComp : Expr → Option (Expr × Expr × Expr × List Expr × Scope)
  | .ListComp elt [⟨tg, it, ifs, 0⟩] sc _ => some (elt, tg, it, ifs, sc)
  | _ => none
def isTup : Expr → Bool
  | .Tuple _ _ _ => true
  | _ => false
def tgI : PX → Expr → Bool
  | .enum _, t | .enum2 _ _, t | .zip _ _, t => isTup t
  | _, _ => true
def isFr : PX → Bool
  | .bin _ _ _ | .lst _ | .sl _ _ _ | .rev _ | .b1 _ _ | .comp _ _ _ _ _ | .callF _ _ => true
  | .ife _ a b => isFr a && isFr b
  | .one a => isFr a
  | _ => false
def isNil : PX → Bool
  | .nil => true
  | _ => false
def b1N : B1 → Str
  | .abs => "abs" | .all => "all" | .any => "any" | .dict _ => "dict" | .int => "int" | .len => "len" | .list => "list"
  | .max => "max" | .min => "min" | .repr => "repr" | .sorted => "sorted" | .sortedSet => "sorted" | .str => "str" | .sum => "sum" | .tuple => "tuple"
def b2N : B2 → Str
  | .max2 => "max" | .min2 => "min"
def tyNm (t : TyN) (e : Expr) : Option String := match tyS t, e with
  | [u], .Name x _ => if x = Str.ofString u then some u else none
  | _, _ => none
def blkOf (b : Bk) (scope : Scope) : Bk := ⟨relS scope b.sc, fun x => scope.names.lookup x == some .cell, b.io⟩
def ownL (C : Ck) (vs : List Nat) : List (Str × Nat) := vs.map fun i => (C.N.getD i Str.empty, i)

section
variable (C : Ck)
def okO (ok : Expr → Bool) (p : PX) : Option Expr → Bool
  | none => isNil p
  | some e => !isNil p && ok e
def okIfs (ok : Expr → Bool) (p : PX) : List Expr → Bool
  | [] => isNil p
  | [e] => !isNil p && ok e
  | _ => false
def okX : PX → Bk → Expr ⊕ List Expr → Bool
  | .nil, _, .inr [] => true
  | .cons p q, b, .inr (e :: es) => notStar e && okX p b (.inl e) && okX q b (.inr es)
  | _, _, .inr _ => false
  | .k c, b, .inl e => okK C b c e
  | .var i, b, .inl e => (match shName e with | some x => nmOk C b i x | none => false)
  | .bin o p q, b, .inl e => (match shBin (bop o) e with | some (l, r) => okX p b (.inl l) && okX q b (.inl r) | none => false)
  | .neg p, b, .inl e => (match shUn .USub e with | some l => okX p b (.inl l) | none => false)
  | .not p, b, .inl e => (match shUn .Not e with | some l => okX p b (.inl l) | none => false)
  | .one p, b, .inl e => (match shOne e with | some l => okX p b (.inl l) | none => false)
  | .and p q, b, .inl e => (match shBool .And e with | some (l, r) => okX p b (.inl l) && okX q b (.inl r) | none => false)
  | .or p q, b, .inl e => (match shBool .Or e with | some (l, r) => okX p b (.inl l) && okX q b (.inl r) | none => false)
  | .ife c p q, b, .inl e => (match shIf e with | some (x, l, r) => okX c b (.inl x) && okX p b (.inl l) && okX q b (.inl r) | none => false)
  | .cmp o p q, b, .inl e => (match shCmp (cop o) e with | some (l, r) => okX p b (.inl l) && okX q b (.inl r) | none => false)
  | .chain o o' p q r, b, .inl e => (match shChain (cop o) (cop o') e with | some (x, y, z) => okX p b (.inl x) && okX q b (.inl y) && okX r b (.inl z) | none => false)
  | .tup l, b, .inl e => (match shTup e with | some es => okX l b (.inr es) | none => false)
  | .lst l, b, .inl e => (match shLst e with | some es => okX l b (.inr es) | none => false)
  | .ix p q, b, .inl e => (match shIx e with | some (x, y) => okX p b (.inl x) && okX q b (.inl y) | none => false)
  | .ixS i q, b, .inl e => (match shIx e with | some (x, y) => (match shName x with | some z => nmOk C b i z | none => false) && okX q b (.inl y) | none => false)
  | .sl p lo hi, b, .inl e => (match shSl e with | some (x, l, h) => okX p b (.inl x) && okO (fun e => okX lo b (.inl e)) lo l && okO (fun e => okX hi b (.inl e)) hi h | none => false)
  | .rev p, b, .inl e => (match shRev e with | some x => okX p b (.inl x) | none => false)
  | .b1 f p, b, .inl e => (match shCall e with | some (x, [a]) => decide (x = b1N f) && isFree C b x && okX p b (.inl a) | _ => false)
  | .b2 f p q, b, .inl e => (match shCall e with | some (x, [a, c]) => decide (x = b2N f) && isFree C b x && okX p b (.inl a) && okX q b (.inl c) | _ => false)
  | .lenS i, b, .inl e => (match shCall e with | some (x, [a]) => decide (x = b1N .len) && isFree C b x && (match shName a with | some z => nmOk C b i z | none => false) | _ => false)
  | .isi p t, b, .inl e => (match shCall e with | some (x, [a, c]) => decide (x = "isinstance") && isFree C b x && okX p b (.inl a) && (match tyNm t c with | some u => isFree C b (Str.ofString u) | none => false) | _ => false)
  | .inS n p i, b, .inl e => (match shCmp (if n then .NotIn else .In) e with | some (l, r) => okX p b (.inl l) && (match shName r with | some z => nmOk C b i z | none => false) | none => false)
  | .call f l, b, .inl e => (match shCall e with | some (x, es) => isFn C b x f && okX l b (.inr es) && (match C.tb[f]? with | some fn => !fn.io && !fn.fr | none => false) | none => false)
  | .callF f l, b, .inl e => (match shCall e with | some (x, es) => isFn C b x f && okX l b (.inr es) && (match C.tb[f]? with | some fn => !fn.io && fn.fr | none => false) | none => false)
  | .callIO f i l, b, .inl e => (match shCall e with | some (x, a :: es) => isFn C b x f && (match shName a with | some z => nmOk C b i z | none => false) && okX l b (.inr es) && (match C.tb[f]? with | some fn => fn.io | none => false) | _ => false)
  | .rng1 p, b, .inl e => (match shCall e with | some (x, [a]) => decide (x = "range") && isFree C b x && okX p b (.inl a) | _ => false)
  | .rng2 p q, b, .inl e => (match shCall e with | some (x, [a, c]) => decide (x = "range") && isFree C b x && okX p b (.inl a) && okX q b (.inl c) | _ => false)
  | .rng3 p q c, b, .inl e => (match shCall e with | some (x, [a, d, s]) => decide (x = "range") && isFree C b x && okX p b (.inl a) && okX q b (.inl d) && (match shUn .USub s with | some (.Constant (.int 1) _ _) => decide (c = -1) | _ => false) | _ => false)
  | .enum p, b, .inl e => (match shCall e with | some (x, [a]) => decide (x = "enumerate") && isFree C b x && okX p b (.inl a) | _ => false)
  | .zip p q, b, .inl e => (match shCall e with | some (x, [a, c]) => decide (x = "zip") && isFree C b x && okX p b (.inl a) && okX q b (.inl c) | _ => false)
  | .comp vs tg it c p, b, .inl e => (match shComp e with
    | some (elt, t, i, ifs, scope) => okX it b (.inl i) && notSet i && tgI it t && blkC C.N b.sc scope (ownL C vs) && okTg C (blkOf b scope) tg (.inl t) &&
        okIfs (fun e => okX c (blkOf b scope) (.inl e)) c ifs && okX p (blkOf b scope) (.inl elt) && (tgs tg).all (fun i => vs.contains i) && (!b.io || !vs.contains 0)
    | none => false)
  | _, _, .inl _ => false
end
end Pu
end

section
set_option Elab.async false
set_option linter.all false
set_option maxRecDepth 100000
namespace Pu
open PySem PySem.Spec PyProof.Rows L2 PySem.W RZ

/-- an expression is what its piece says -/
structure GE (G : Th) (W : WX) (cl : Nat → Option (List PV) → List PV → Outc) (io : Option Addr) (X : Cx) (p : PX) (e : Expr) : Prop where
  ee : PE X e (tE G W cl io p)
  tt : PT X e (tT G W cl io p)
  ww : notBO e = false → L2.PW X e (tT G W cl io p)
  ii : ∀ tg, tgI p tg = true → PI X tg e (tI G W cl io p)
  ff : isFr p = true → PE X e (tF G W cl io p)
def SndX (C : Ck) (p : PX) : Prop := ∀ (G : Th) (W : WX) (cl : Nat → Option (List PV) → List PV → Outc) (io : Option Addr) (b : Bk) (X : Cx), CX1 G W cl io C b X →
  (∀ e, okX C p b (.inl e) = true → GE G W cl io X p e) ∧ ∀ es, okX C p b (.inr es) = true → PA X es (tA G W cl io p)
section
variable {G : Th} {W : WX} {cl : Nat → Option (List PV) → List PV → Outc} {io : Option Addr} {C : Ck} {b : Bk} {X : Cx} {p q a : PX} {e : Expr}
theorem pt_never {X : Cx} {e : Expr} : PT X e fun _ _ _ => False := ⟨fun _ _ _ _ _ _ h => h.elim⟩
theorem pi_never {X : Cx} {tg e : Expr} : PI X tg e fun _ _ _ => False := ⟨fun _ _ _ _ _ _ h => h.elim⟩
theorem GE.ofV (hp : plainT e = true) (he : PE X e (tE G W cl io p)) (hT : denT cl p = (fun ρ => (den cl p ρ).bind fun x ρ => R.of (truth x) ρ) := by rfl) (hI : denI cl p = (fun ρ => (den cl p ρ).bind fun x ρ => R.of (itemsOf x) ρ) := by rfl) (hf : isFr p = true → PE X e (tF G W cl io p) := by exact fun z => nomatch z) : GE G W cl io X p e :=
  ⟨he, pt_imp (pt_truth he (isTrue_pl hp)) (of_tT hT), fun z => by cases e <;> first | (cases z; done) | (cases hp; done), fun tg _ => pi_imp (pi_any he) (of_tI hI), hf⟩
theorem GE.ofF (hp : plainT e = true) (hf : PE X e (tF G W cl io p)) (hT : denT cl p = (fun ρ => (den cl p ρ).bind fun x ρ => R.of (truth x) ρ) := by rfl) (hI : denI cl p = (fun ρ => (den cl p ρ).bind fun x ρ => R.of (itemsOf x) ρ) := by rfl) : GE G W cl io X p e :=
  GE.ofV hp (tF.val hf) hT hI fun _ => hf
/-- a test -/
theorem GE.ofT (hb : notBO e = true) (ht : PT X e (tT G W cl io p)) (he : PE X e (tE G W cl io p)) (hI : denI cl p = (fun _ => .stuck) := by rfl) (hf : isFr p = false := by rfl) : GE G W cl io X p e :=
  ⟨he, ht, fun z => (nomatch hb.symm.trans z), fun tg _ => pi_imp pi_never fun σ H R ⟨P, F, ρ, rel, fin⟩ => by rw [hI] at fin; exact fin, fun z => (nomatch hf.symm.trans z)⟩
/-- what is walked alone -/
theorem GE.ofI (hb : notBO e = true) (hi : ∀ tg, tgI p tg = true → PI X tg e (tI G W cl io p)) (hV : den cl p = (fun _ => .stuck) := by rfl) (hT : denT cl p = (fun _ => .stuck) := by rfl) (hf : isFr p = false := by rfl) : GE G W cl io X p e :=
  ⟨pe_imp pe_never fun σ H R ⟨P, F, ρ, rel, fin⟩ => by rw [hV] at fin; exact fin, pt_imp pt_never fun σ H R ⟨P, F, ρ, rel, fin⟩ => by rw [hT] at fin; exact fin, fun z => (nomatch hb.symm.trans z), hi, fun z => (nomatch hf.symm.trans z)⟩


/-! ### forms -/
theorem shName_eq {x : Str} (h : shName e = some x) : ∃ pos, e = .Name x pos := by
  cases e <;> first | (cases h; done) | (cases h; exact ⟨_, rfl⟩)
theorem shBin_eq {o : Operator} {l r : Expr} (h : shBin o e = some (l, r)) : ∃ pos, e = .BinOp l o r pos := by
  unfold shBin at h
  split at h
  · obtain ⟨rfl, z⟩ := rp_some h; cases z; exact ⟨_, rfl⟩
  · cases h
theorem shUn_eq {o : UnaryOp} {l : Expr} (h : shUn o e = some l) : ∃ pos, e = .UnaryOp o l pos := by
  unfold shUn at h
  split at h
  · obtain ⟨rfl, rfl⟩ := rp_some h; exact ⟨_, rfl⟩
  · cases h
theorem shOne_eq {l : Expr} (h : shOne e = some l) : ∃ o pos, e = .BoolOp o [l] pos := by
  unfold shOne at h
  split at h
  · cases h; exact ⟨_, _, rfl⟩
  · cases h
theorem shBool_eq {o : BoolOp} {l r : Expr} (h : shBool o e = some (l, r)) : ∃ y rs pos, e = .BoolOp o (l :: y :: rs) pos ∧ r = .BoolOp o (y :: rs) pos := by
  unfold shBool at h
  split at h
  · obtain ⟨rfl, z⟩ := rp_some h; cases z; exact ⟨_, _, _, rfl, rfl⟩
  · cases h
theorem shIf_eq {x l r : Expr} (h : shIf e = some (x, l, r)) : ∃ pos, e = .IfExp x l r pos := by
  unfold shIf at h
  split at h
  · cases h; exact ⟨_, rfl⟩
  · cases h
theorem shCmp_eq {o : CmpOp} {l r : Expr} (h : shCmp o e = some (l, r)) : ∃ pos, e = .Compare l [o] [r] pos ∧ notSet r = true := by
  unfold shCmp at h
  split at h
  · obtain ⟨c, z⟩ := rp_some h; cases z
    simp only [Bool.and_eq_true, decide_eq_true_eq] at c
    obtain ⟨rfl, c⟩ := c
    exact ⟨_, rfl, c⟩
  · cases h
theorem shChain_eq {o o' : CmpOp} {x y z : Expr} (h : shChain o o' e = some (x, y, z)) : ∃ pos, e = .Compare x [o, o'] [y, z] pos ∧ notSet z = true := by
  unfold shChain at h
  split at h
  · obtain ⟨c, z⟩ := rp_some h; cases z
    simp only [Bool.and_eq_true, decide_eq_true_eq] at c
    obtain ⟨⟨rfl, rfl⟩, c⟩ := c
    exact ⟨_, rfl, c⟩
  · cases h
theorem shTup_eq {es : List Expr} (h : shTup e = some es) : ∃ k pos, e = .Tuple es k pos := by
  unfold shTup at h
  split at h
  · cases h; exact ⟨_, _, rfl⟩
  · cases h
theorem shLst_eq {es : List Expr} (h : shLst e = some es) : ∃ pos, e = .List es pos := by
  unfold shLst at h
  split at h
  · cases h; exact ⟨_, rfl⟩
  · cases h
theorem shIx_eq {x y : Expr} (h : shIx e = some (x, y)) : ∃ pos, e = .Subscript x y pos ∧ plainIx y = true := by
  unfold shIx at h
  split at h
  · obtain ⟨c, z⟩ := rp_some h; cases z; exact ⟨_, rfl, c⟩
  · cases h
theorem shSl_eq {x : Expr} {l r : Option Expr} (h : shSl e = some (x, l, r)) : ∃ p2 pos, e = .Subscript x (.Slice l r none p2) pos := by
  unfold shSl at h
  split at h
  · cases h; exact ⟨_, _, rfl⟩
  · cases h
theorem shCall_eq {x : Str} {es : List Expr} (h : shCall e = some (x, es)) : ∃ p pos, e = .Call (.Name x p) es [] pos ∧ es.all notStar = true := by
  unfold shCall at h
  split at h
  · obtain ⟨c, z⟩ := rp_some h; cases z; exact ⟨_, _, rfl, c⟩
  · cases h
theorem shRev_eq {x : Expr} (h : shRev e = some x) : ∃ k p1 p2 p3 pos, e = .Subscript x (.Slice none none (some (.UnaryOp .USub (.Constant (.int 1) k p1) p2)) p3) pos := by
  unfold shRev at h
  split at h
  · cases h; exact ⟨_, _, _, _, _, rfl⟩
  · cases h
theorem shComp_eq {elt t i : Expr} {ifs : List Expr} {scope : Scope} (h : shComp e = some (elt, t, i, ifs, scope)) : ∃ pos, e = .ListComp elt [⟨t, i, ifs, 0⟩] scope pos := by
  unfold shComp at h
  split at h
  · cases h; exact ⟨_, rfl⟩
  · cases h

theorem Rel.frz {P F F' : Addr → Prop} {ρ : Sl} {σ : L2.St} {H : Hp} (r : Rel G P F io ρ σ H) {i : Nat} {s : Slot} {a : Addr} {p : PV} (hp : ρ[i]? = some s) (ho : s.isOwn = true) (hx : σ[i]? = some (some (.ref a))) (e : Ext G P F H F' H) (hF : ∀ b, F' b → b = a ∨ F b)
    (rp : Rp G F' H p (.ref a)) : Rel G P F' io (ρ.set i (.val p)) σ H := by
  have ow : ∀ {j}, ownB (ρ.set i (.val p)) j → i ≠ j ∧ ownB ρ j := fun {j} ⟨t, ht, hto⟩ => by
    by_cases z : i = j
    · subst z
      rw [List.getElem?_set, if_pos rfl] at ht
      split at ht
      · cases ht; cases hto
      · cases ht
    · rw [List.getElem?_set_ne z] at ht; exact ⟨z, t, ht, hto⟩
  refine ⟨e.pre r.pre, by rw [List.length_set]; exact r.len, fun j t ht => ?_, fun j k c hj hk => r.apart j k c (ow hj).2 (ow hk).2, r.pin⟩
  by_cases z : i = j
  · subst z
    rw [List.getElem?_set, if_pos rfl] at ht
    split at ht
    · cases ht; exact ⟨_, hx, rp⟩
    · cases ht
  · rw [List.getElem?_set_ne z] at ht
    refine (r.at_ j t ht).monoF e.fz (fun c u f h n => h) fun hto c q => ?_
    obtain ⟨f, p, _⟩ := r.ownA ⟨j, ⟨t, ht, hto⟩, q⟩
    exact ⟨rfl, fun fc => (hF c fc).elim (fun w => z (r.apart i j a ⟨s, hp, ho⟩ ⟨t, ht, hto⟩ hx (w ▸ q))) f, p⟩
theorem and2 {a b : Bool} (h : (a && b) = true) : a = true ∧ b = true := Bool.and_eq_true_iff.mp h
/-! ### piece by piece -/
theorem snd_k (c : PV) : SndX C (.k c) := by
  refine fun G W cl io b X cx => ⟨fun e h => ?_, by (exact fun es h => nomatch (show false = true from h))⟩
  have h : okK C b c e = true := h
  have hold : ∀ {v : V}, (∀ F H, Rp G F H c v) → ∀ σ H Q, tE G W cl io (.k c) σ H Q → L2.tC v σ H Q := fun {v} hv σ H Q ⟨P, F, ρ, rel, fin⟩ => fin F H v (Ext.refl rel.pre) rel (hv F H)
  unfold okK at h
  split at h
  · split at h
    · have := of_decide_eq_true h; subst this
      exact GE.ofV rfl (pe_imp pe_int (hold fun F H => rp_int))
    · cases h
  · split at h
    · have := beq_iff_eq.mp h; subst this
      exact GE.ofV rfl (pe_imp pe_bl (hold fun F H => rp_bl))
    · cases h
  · cases c <;> first | (cases h; done) | skip
    exact GE.ofV rfl (pe_imp pe_non (hold fun F H => rp_non))
  · split at h
    · simp only [Bool.and_eq_true, decide_eq_true_eq] at h
      obtain ⟨⟨rfl, s1⟩, s2⟩ := h
      exact GE.ofV rfl (pe_imp pe_str (hold fun F H => rp_str s1 (le_line s2)))
    · cases h
  · split at h
    · rename_i c' e1
      have := flatSame_eq h; subst this
      obtain ⟨hg, ⟨u, v, hm, hr, hv⟩, hd, _⟩ := cx.glo e1
      exact GE.ofV rfl (pe_imp (pe_glob hg hm hr hd) (hold hv))
    · rename_i f e1
      split at h
      · have := beq_iff_eq.mp h; subst this
        obtain ⟨hg, hm, hd, _⟩ := cx.glo e1
        exact GE.ofV rfl (pe_imp (pe_glob (v := .ref (G.fa f)) hg hm rfl hd) (hold fun F H => by unfold Rp; rfl))
      · cases h
    · cases h
  · cases h
theorem rd_tE {i : Nat} : ∀ σ H Q, tE G W cl io (.var i) σ H Q → tVar i σ H Q := fun σ H Q ⟨P, F, ρ, rel, fin⟩ => by
  have fin : Fn G P io W (AV G) F σ H (rd i ρ) Q := fin
  unfold rd at fin
  split at fin
  · rename_i p hp
    obtain ⟨x, hx, rx⟩ := rel.at_ i _ hp
    exact ⟨x, hx, fin F H x (Ext.refl rel.pre) rel rx⟩
  · rename_i xs hp
    obtain ⟨a, vs, hx, nf, np, ha, z, ra⟩ := rel.at_ i _ hp
    refine ⟨_, hx, ?_⟩
    have e : Ext G P F H (fun b => b = a ∨ F b) H := Ext.freeze rel.pre np ⟨_, ha⟩
    have rp : Rp G (fun b => b = a ∨ F b) H (.lst xs) (.ref a) := by unfold Rp; exact ⟨a, vs, rfl, .inl rfl, ha, z, e.rpA ra⟩
    refine fin _ H _ e (rel.frz hp rfl hx e (fun b z => z.elim (fun z => .inl z) .inr) rp) rp
  · rename_i t ks ps hp
    have o := (rel.at_ i _ hp).owned rfl
    obtain ⟨a, u, hx, nf, np, ha, nu⟩ := o
    refine ⟨_, hx, ?_⟩
    have e : Ext G P F H (fun b => b = a ∨ F b) H := Ext.freeze rel.pre np ⟨_, ha⟩
    have rp : Rp G (fun b => b = a ∨ F b) H (.dic t ks ps) (.ref a) := by
      cases t with
      | false =>
        obtain ⟨a', ms, vs, hx', nf, np, ha, z, z2, hk, ra⟩ := rel.at_ i _ hp
        rw [hx] at hx'; cases hx'
        unfold Rp; exact ⟨a, ms, vs, rfl, .inl rfl, ha, z, z2, hk, e.rpA ra⟩
      | true =>
        obtain ⟨a', ms, vs, hx', nf, np, ha, z, z2, hk, ra⟩ := rel.at_ i _ hp
        rw [hx] at hx'; cases hx'
        unfold Rp; exact ⟨a, ms, vs, rfl, .inl rfl, ha, z, z2, hk, e.rpA ra⟩
    refine fin _ H _ e (rel.frz hp rfl hx e (fun b z => z.elim (fun z => .inl z) .inr) rp) rp
  · exact fin.elim

theorem snd_var (i : Nat) : SndX C (.var i) := by
  refine fun G W cl io b X cx => ⟨fun e h => ?_, by (exact fun es h => nomatch (show false = true from h))⟩
  replace h : (match shName e with | some x => nmOk C b i x | none => false) = true := h
  split at h
  · rename_i x hx
    obtain ⟨pos, rfl⟩ := shName_eq hx
    exact GE.ofV rfl (pe_imp (cx.nm h).2.2 rd_tE)
  · cases h
theorem snd_bin {o : BOp} (hp : SndX C p) (hq : SndX C q) : SndX C (.bin o p q) := by
  refine fun G W cl io b X cx => ⟨fun e h => ?_, by (exact fun es h => nomatch (show false = true from h))⟩
  replace h : (match shBin (bop o) e with | some (l, r) => okX C p b (.inl l) && okX C q b (.inl r) | none => false) = true := h
  split at h
  · rename_i l r hx
    obtain ⟨pos, rfl⟩ := shBin_eq hx
    have h := and2 h
    have g1 := (hp G W cl io b X cx).1 l h.1
    have g2 := (hq G W cl io b X cx).1 r h.2
    exact GE.ofF rfl (pe_imp (pe_op (op_bin o) g1.ee g2.ee) (bin_tF rfl fun P F H Q x y u v w pr rx ry hv q => ok_bin pr rx ry hv q))
  · cases h
theorem snd_neg (hp : SndX C p) : SndX C (.neg p) := by
  refine fun G W cl io b X cx => ⟨fun e h => ?_, by (exact fun es h => nomatch (show false = true from h))⟩
  replace h : (match shUn .USub e with | some l => okX C p b (.inl l) | none => false) = true := h
  split at h
  · rename_i l hx
    obtain ⟨pos, rfl⟩ := shUn_eq hx
    have g1 := (hp G W cl io b X cx).1 l h
    refine GE.ofV rfl (pe_imp (pe_un un_neg g1.ee) fun σ H Q ⟨P, F, ρ, rel, fin⟩ => ⟨P, F, ρ, rel, Fn.mono (Fn.bind (A := AV G) fin) fun x H1 ⟨F1, u, ρ1, e1, rel1, a1, fin1⟩ => ?_⟩)
    unfold negP at fin1
    split at fin1
    · rename_i i
      unfold Rp at a1
      exact ⟨i, a1, fin1 F1 H1 _ (Ext.refl rel1.pre) rel1 rp_int⟩
    · exact fin1.elim
  · cases h
theorem snd_not (hp : SndX C p) : SndX C (.not p) := by
  refine fun G W cl io b X cx => ⟨fun e h => ?_, by (exact fun es h => nomatch (show false = true from h))⟩
  replace h : (match shUn .Not e with | some l => okX C p b (.inl l) | none => false) = true := h
  split at h
  · rename_i l hx
    obtain ⟨pos, rfl⟩ := shUn_eq hx
    have g1 := (hp G W cl io b X cx).1 l h
    refine GE.ofT rfl (pt_imp (pt_not g1.tt) fun σ H Q ⟨P, F, ρ, rel, fin⟩ => ⟨P, F, ρ, rel, Fn.mono (Fn.bind (A := AE) fin) fun x H1 ⟨F1, u, ρ1, e1, rel1, a1, fin1⟩ => ?_⟩)
      (pe_imp (pe_not g1.ee) fun σ H Q ⟨P, F, ρ, rel, fin⟩ => ⟨P, F, ρ, rel, Fn.mono (Fn.bind (A := AV G) fin) fun x H1 ⟨F1, u, ρ1, e1, rel1, a1, fin1⟩ => ?_⟩)
    · have a1 : u = x := a1
      subst a1
      exact fin1 F1 H1 _ (Ext.refl rel1.pre) rel1 rfl
    · obtain ⟨v, hv, q⟩ := Fn.res rel1 fin1
      unfold notP at hv
      split at hv
      · rename_i c
        cases hv
        unfold Rp at a1
        exact ⟨c, a1, q.bl rel1.pre'⟩
      · cases hv
  · cases h
theorem snd_one (hp : SndX C p) : SndX C (.one p) := by
  refine fun G W cl io b X cx => ⟨fun e h => ?_, by (exact fun es h => nomatch (show false = true from h))⟩
  replace h : (match shOne e with | some l => okX C p b (.inl l) | none => false) = true := h
  split at h
  · rename_i l hx
    obtain ⟨o, pos, rfl⟩ := shOne_eq hx
    have g1 := (hp G W cl io b X cx).1 l h
    have w : L2.PW X (.BoolOp o [l] pos) (tT G W cl io p) := by
      cases o with
      | And => exact pw_and1 g1.tt
      | Or => exact pw_or1 g1.tt
    refine ⟨pe_one g1.ee, w.pt, fun _ => w, fun tg z => ?_, fun z => pe_one (g1.ff z)⟩
    exact pi_imp pi_never fun σ H R ⟨P, F, ρ, rel, fin⟩ => fin
  · cases h

theorem tE_mono {σ : L2.St} {H : Hp} {Q Q' : VK} (h : ∀ x H, Q x H → Q' x H) (t : tE G W cl io p σ H Q) : tE G W cl io p σ H Q' := let ⟨P, F, ρ, rel, fin⟩ := t; ⟨P, F, ρ, rel, Fn.mono fin h⟩
theorem and_pt {X : Cx} {x y r : Expr} {pos : Pos} {rs : List Expr} (g1 : GE G W cl io X p x) (g2 : GE G W cl io X q (.BoolOp .And (y :: rs) pos)) : GE G W cl io X (.and p q) (.BoolOp .And (x :: y :: rs) pos) := by
  have w : L2.PW X (.BoolOp .And (x :: y :: rs) pos) (tT G W cl io (.and p q)) := by
    have w := pw_and (pos := pos) g1.tt (g2.ww rfl)
    refine ⟨fun wh pins s σ H Q I ⟨P, F, ρ, rel, fin⟩ => w.run wh pins s σ H Q I ⟨P, F, ρ, rel, Fn.mono (Fn.bind (A := AE) fin) fun t H1 ⟨F1, u, ρ1, e1, rel1, a1, fin1⟩ => ?_⟩⟩
    have a1 : u = t := a1
    subst a1
    cases u with
    | true => rw [if_pos rfl]; rw [if_pos rfl] at fin1; exact ⟨P, F1, ρ1, rel1, fin1⟩
    | false => rw [if_neg (by simp)]; rw [if_neg (by simp)] at fin1; exact fin1 F1 H1 _ (Ext.refl rel1.pre) rel1 rfl
  refine ⟨pe_imp (pe_and (pos := pos) g1.ee g2.ee) fun σ H Q ⟨P, F, ρ, rel, fin⟩ => ⟨P, F, ρ, rel, Fn.mono (Fn.bind (A := AV G) fin) fun t H1 ⟨F1, u, ρ1, e1, rel1, a1, fin1⟩ => ?_⟩, w.pt, fun _ => w, fun tg _ => pi_imp pi_never fun σ H R ⟨P, F, ρ, rel, fin⟩ => fin, fun z => nomatch z⟩
  unfold andP at fin1
  split at fin1
  · unfold Rp at a1; subst a1
    exact ⟨true, rfl, by rw [if_pos rfl]; exact ⟨P, F1, ρ1, rel1, fin1⟩⟩
  · unfold Rp at a1; subst a1
    exact ⟨false, rfl, by rw [if_neg (by simp)]; exact fin1 F1 H1 _ (Ext.refl rel1.pre) rel1 rp_bl⟩
  · exact fin1.elim
theorem or_pt {X : Cx} {x y r : Expr} {pos : Pos} {rs : List Expr} (g1 : GE G W cl io X p x) (g2 : GE G W cl io X q (.BoolOp .Or (y :: rs) pos)) : GE G W cl io X (.or p q) (.BoolOp .Or (x :: y :: rs) pos) := by
  have w : L2.PW X (.BoolOp .Or (x :: y :: rs) pos) (tT G W cl io (.or p q)) := by
    have w := pw_or (pos := pos) g1.tt (g2.ww rfl)
    refine ⟨fun wh pins s σ H Q I ⟨P, F, ρ, rel, fin⟩ => w.run wh pins s σ H Q I ⟨P, F, ρ, rel, Fn.mono (Fn.bind (A := AE) fin) fun t H1 ⟨F1, u, ρ1, e1, rel1, a1, fin1⟩ => ?_⟩⟩
    have a1 : u = t := a1
    subst a1
    cases u with
    | true => rw [if_pos rfl]; rw [if_pos rfl] at fin1; exact fin1 F1 H1 _ (Ext.refl rel1.pre) rel1 rfl
    | false => rw [if_neg (by simp)]; rw [if_neg (by simp)] at fin1; exact ⟨P, F1, ρ1, rel1, fin1⟩
  refine ⟨pe_imp (pe_or (pos := pos) g1.ee g2.ee) fun σ H Q ⟨P, F, ρ, rel, fin⟩ => ⟨P, F, ρ, rel, Fn.mono (Fn.bind (A := AV G) fin) fun t H1 ⟨F1, u, ρ1, e1, rel1, a1, fin1⟩ => ?_⟩, w.pt, fun _ => w, fun tg _ => pi_imp pi_never fun σ H R ⟨P, F, ρ, rel, fin⟩ => fin, fun z => nomatch z⟩
  unfold orP at fin1
  split at fin1
  · unfold Rp at a1; subst a1
    exact ⟨false, rfl, by rw [if_neg (by simp)]; exact ⟨P, F1, ρ1, rel1, fin1⟩⟩
  · unfold Rp at a1; subst a1
    exact ⟨true, rfl, by rw [if_pos rfl]; exact fin1 F1 H1 _ (Ext.refl rel1.pre) rel1 rp_bl⟩
  · exact fin1.elim
theorem snd_and (hp : SndX C p) (hq : SndX C q) : SndX C (.and p q) := by
  refine fun G W cl io b X cx => ⟨fun e h => ?_, by (exact fun es h => nomatch (show false = true from h))⟩
  replace h : (match shBool .And e with | some (l, r) => okX C p b (.inl l) && okX C q b (.inl r) | none => false) = true := h
  split at h
  · rename_i l r hx
    obtain ⟨y, rs, pos, rfl, rfl⟩ := shBool_eq hx
    have h := and2 h
    exact and_pt (r := l) ((hp G W cl io b X cx).1 l h.1) ((hq G W cl io b X cx).1 _ h.2)
  · cases h
theorem snd_or (hp : SndX C p) (hq : SndX C q) : SndX C (.or p q) := by
  refine fun G W cl io b X cx => ⟨fun e h => ?_, by (exact fun es h => nomatch (show false = true from h))⟩
  replace h : (match shBool .Or e with | some (l, r) => okX C p b (.inl l) && okX C q b (.inl r) | none => false) = true := h
  split at h
  · rename_i l r hx
    obtain ⟨y, rs, pos, rfl, rfl⟩ := shBool_eq hx
    have h := and2 h
    exact or_pt (r := l) ((hp G W cl io b X cx).1 l h.1) ((hq G W cl io b X cx).1 _ h.2)
  · cases h
/-- a if c else b, as a test -/
theorem pt_ife {X : Cx} {x l r : Expr} {pos : Pos} {tc ta tb : TT} (hc : PT X x tc) (ha : PT X l ta) (hb : PT X r tb) : PT X (.IfExp x l r pos) (fun σ H Q => tc σ H fun c H1 => if c = true then ta σ H1 Q else tb σ H1 Q) := by
  refine ⟨fun pins s σ H Q I h => ?_⟩
  show wpAny (model X.prog X.w) X.A (do if ← isTrue x X.env (eval x X.env) then isTrue l X.env (eval l X.env) else isTrue r X.env (eval r X.env)) _ _ _
  refine wpAny_bind (thn (hc.run pins s σ H _ I h) fun c s1 ⟨H1, I1, q1⟩ => ?_)
  cases c with
  | true => rw [if_pos rfl]; rw [if_pos rfl] at q1; exact ha.run pins s1 σ H1 Q I1 q1
  | false => rw [if_neg (by simp)]; rw [if_neg (by simp)] at q1; exact hb.run pins s1 σ H1 Q I1 q1
theorem snd_ife {c : PX} (hc : SndX C c) (hp : SndX C p) (hq : SndX C q) : SndX C (.ife c p q) := by
  refine fun G W cl io b X cx => ⟨fun e h => ?_, by (exact fun es h => nomatch (show false = true from h))⟩
  replace h : (match shIf e with | some (x, l, r) => okX C c b (.inl x) && okX C p b (.inl l) && okX C q b (.inl r) | none => false) = true := h
  split at h
  · rename_i x l r hx
    obtain ⟨pos, rfl⟩ := shIf_eq hx
    obtain ⟨h, h3⟩ := and2 h
    obtain ⟨h1, h2⟩ := and2 h
    have g0 := (hc G W cl io b X cx).1 x h1
    have g1 := (hp G W cl io b X cx).1 l h2
    have g2 := (hq G W cl io b X cx).1 r h3
    have hE : PE X (.IfExp x l r pos) (tE G W cl io (.ife c p q)) := pe_imp (pe_ifExp g0.tt g1.ee g2.ee) fun σ H Q ⟨P, F, ρ, rel, fin⟩ => ⟨P, F, ρ, rel, Fn.mono (Fn.bind (A := AE) fin) fun t H1 ⟨F1, u, ρ1, e1, rel1, a1, fin1⟩ => by
      have a1 : u = t := a1
      subst a1
      cases u with
      | true => exact ⟨P, F1, ρ1, rel1, fin1⟩
      | false => exact ⟨P, F1, ρ1, rel1, fin1⟩⟩
    refine ⟨hE, pt_imp (pt_ife g0.tt g1.tt g2.tt) fun σ H Q ⟨P, F, ρ, rel, fin⟩ => ⟨P, F, ρ, rel, Fn.mono (Fn.bind (A := AE) fin) fun t H1 ⟨F1, u, ρ1, e1, rel1, a1, fin1⟩ => ?_⟩, (fun z => nomatch z), fun tg _ => pi_imp (pi_any hE) (of_tI rfl), fun z => ?_⟩
    · have a1 : u = t := a1
      subst a1
      cases u with
      | true => exact ⟨P, F1, ρ1, rel1, fin1⟩
      | false => exact ⟨P, F1, ρ1, rel1, fin1⟩
    · obtain ⟨z1, z2⟩ := and2 z
      refine pe_imp (pe_ifExp g0.tt (g1.ff z1) (g2.ff z2)) fun σ H Q ⟨P, F, ρ, rel, fin⟩ => ⟨P, F, ρ, rel, Fn.mono (Fn.bind (A := AE) fin) fun t H1 ⟨F1, u, ρ1, e1, rel1, a1, fin1⟩ => ?_⟩
      have a1 : u = t := a1
      subst a1
      have wk : ∀ {r : R PV}, Fn G P io W (AF G σ H) F1 σ H1 r Q → Fn G P io W (AF G σ H1) F1 σ H1 r Q := fun {r} f => by
        cases r with
        | ok v ρ' =>
          intro F' H' z e2 r2 a2
          refine f F' H' z e2 r2 ?_
          rcases a2 with a2 | ⟨b, e, hn, r⟩
          · exact .inl a2
          · exact .inr ⟨b, e, e1.nope hn, r⟩
        | exc c vs ρ' => exact f
        | stuck => exact f
      cases u with
      | true => exact ⟨P, F1, ρ1, rel1, wk fin1⟩
      | false => exact ⟨P, F1, ρ1, rel1, wk fin1⟩
  · cases h
theorem snd_cmp {o : COp} (hp : SndX C p) (hq : SndX C q) : SndX C (.cmp o p q) := by
  refine fun G W cl io b X cx => ⟨fun e h => ?_, by (exact fun es h => nomatch (show false = true from h))⟩
  replace h : (match shCmp (cop o) e with | some (l, r) => okX C p b (.inl l) && okX C q b (.inl r) | none => false) = true := h
  split at h
  · rename_i l r hx
    obtain ⟨pos, rfl, ns⟩ := shCmp_eq hx
    have h := and2 h
    have g1 := (hp G W cl io b X cx).1 l h.1
    have g2 := (hq G W cl io b X cx).1 r h.2
    refine GE.ofT rfl (pt_imp (pt_cmpR (op_cmp cx.un o) g1.ee g2.ee (marks_ns _ ns)) (bin_tT rfl fun F H Q x y u v w rx ry hv q => ok_cmp rx ry hv ⟨w, rfl, q⟩))
      (pe_imp (pe_cmpR (op_cmp cx.un o) g1.ee g2.ee (marks_ns _ ns)) fun σ H Q t => ?_)
    have t2 := bin_tT (p := .cmp o p q) (a := p) (c := q) (r := fun x y H Q' => ∀ Q, (∀ b H, Q' b H → Q (.bl b) H) → rCmp X.K o x y H Q) rfl (fun F H Q' x y u v w rx ry hv q => fun Q2 im => ok_cmp rx ry hv (im _ _ q)) σ H _ (ofT_tE rfl σ H Q t)
    exact tE_mono (fun x H1 t3 => tE_mono (fun y H2 k => k Q fun _ _ z => z) t3) t2
  · cases h
end
end Pu
end

section
set_option Elab.async false
set_option linter.all false
set_option maxRecDepth 100000
namespace Pu
open PySem PySem.Spec PyProof.Rows L2 PySem.W RZ

section
variable {G : Th} {W : WX} {cl : Nat → Option (List PV) → List PV → Outc} {io : Option Addr} {C : Ck} {b : Bk} {X : Cx} {p q r a : PX} {e : Expr}
theorem snd_chain {o o' : COp} (hp : SndX C p) (hq : SndX C q) (hr : SndX C r) : SndX C (.chain o o' p q r) := by
  refine fun G W cl io b X cx => ⟨fun e h => ?_, by (exact fun es h => nomatch (show false = true from h))⟩
  replace h : (match shChain (cop o) (cop o') e with | some (x, y, z) => okX C p b (.inl x) && okX C q b (.inl y) && okX C r b (.inl z) | none => false) = true := h
  split at h
  · rename_i x y z hx
    obtain ⟨pos, rfl, ns⟩ := shChain_eq hx
    obtain ⟨h, h3⟩ := and2 h
    obtain ⟨h1, h2⟩ := and2 h
    have g1 := (hp G W cl io b X cx).1 x h1
    have g2 := (hq G W cl io b X cx).1 y h2
    have g3 := (hr G W cl io b X cx).1 z h3
    have main : ∀ (f : V → Hp → Prop) (Qb : Bool → Hp → Prop), (∀ c H, Qb c H → f (.bl c) H) → ∀ σ H, tT G W cl io (.chain o o' p q r) σ H Qb → tChain (rCmp X.K o) (rCmp X.K o') (tE G W cl io p) (tE G W cl io q) (tE G W cl io r) σ H f := fun f Qb im σ H ⟨P, F, ρ, rel, fin⟩ => by
      refine ⟨P, F, ρ, rel, Fn.mono (Fn.bind (A := AV G) fin) fun x H1 ⟨F1, u, ρ1, e1, rel1, a1, fin1⟩ => ⟨P, F1, ρ1, rel1, Fn.mono (Fn.bind (A := AV G) fin1) fun y H2 ⟨F2, v, ρ2, e2, rel2, a2, fin2⟩ => ?_⟩⟩
      cases hc : cmpop o u v with
      | none => rw [hc] at fin2; exact fin2.elim
      | some t =>
        rw [hc] at fin2
        refine ok_cmp (e2.rp a1) a2 hc ⟨t, rfl, ?_⟩
        have fin2 : Fn G P io W AE F2 σ H2 (if t then ((sem cl r).v ρ2).bind fun z ρ => .of (cmpop o' v z) ρ else .ok false ρ2) Qb := fin2
        cases t with
        | true =>
          rw [if_pos rfl] at fin2 ⊢
          refine ⟨P, F2, ρ2, rel2, Fn.mono (Fn.bind (A := AV G) fin2) fun z H3 ⟨F3, w, ρ3, e3, rel3, a3, fin3⟩ => ?_⟩
          obtain ⟨t', ht, q'⟩ := Fn.bl rel3 fin3
          exact ok_cmp (e3.rp a2) a3 ht (im _ _ q')
        | false =>
          rw [if_neg (by simp)] at fin2 ⊢
          exact im _ _ (fin2 F2 H2 false (Ext.refl rel2.pre) rel2 rfl)
    exact GE.ofT rfl (pt_imp (pt_chain (op_cmp cx.un o) (op_cmp cx.un o') g1.ee g2.ee g3.ee (last_ns ns)) fun σ H Q t => main _ Q (fun c H q => ⟨c, rfl, q⟩) σ H t)
      (pe_imp (pe_chain (op_cmp cx.un o) (op_cmp cx.un o') g1.ee g2.ee g3.ee (last_ns ns)) fun σ H Q t => main Q _ (fun _ _ q => q) σ H (ofT_tE rfl σ H Q t))
  · cases h
theorem snd_nil : SndX C .nil := by
  refine fun G W cl io b X cx => ⟨fun e h => (nomatch (show false = true from h)), fun es h => ?_⟩
  cases es with
  | cons _ _ => exact nomatch (show false = true from h)
  | nil => exact pa_imp pa_nil fun σ H Q ⟨P, F, ρ, rel, fin⟩ => fin F H [] (Ext.refl rel.pre) rel ⟨[], rfl, RpA.nil⟩
theorem snd_cons (hp : SndX C p) (hq : SndX C q) : SndX C (.cons p q) := by
  refine fun G W cl io b X cx => ⟨fun e h => (nomatch (show false = true from h)), fun es h => ?_⟩
  cases es with
  | nil => exact nomatch (show false = true from h)
  | cons e es =>
    replace h : (notStar e && okX C p b (.inl e) && okX C q b (.inr es)) = true := h
    obtain ⟨h, h3⟩ := and2 h
    obtain ⟨h1, h2⟩ := and2 h
    have g1 := (hp G W cl io b X cx).1 e h2
    have g2 := (hq G W cl io b X cx).2 es h3
    refine pa_imp (pa_cons g1.ee g2 (starEach_ns h1)) fun σ H Q ⟨P, F, ρ, rel, fin⟩ => ⟨P, F, ρ, rel, Fn.mono (Fn.bind (A := AV G) fin) fun x H1 ⟨F1, u, ρ1, e1, rel1, a1, fin1⟩ => ⟨P, F1, ρ1, rel1, Fn.mono (Fn.bind (A := AA G) fin1) fun vs H2 ⟨F2, y, ρ2, e2, rel2, ⟨ps, ey, ra⟩, fin2⟩ => ?_⟩⟩
    subst ey
    exact fin2 F2 H2 _ (Ext.refl rel2.pre) rel2 ⟨_, rfl, RpA.cons (e2.rp a1) ra⟩
theorem snd_tup (hp : SndX C p) : SndX C (.tup p) := by
  refine fun G W cl io b X cx => ⟨fun e h => ?_, by (exact fun es h => nomatch (show false = true from h))⟩
  replace h : (match shTup e with | some es => okX C p b (.inr es) | none => false) = true := h
  split at h
  · rename_i es hx
    obtain ⟨k, pos, rfl⟩ := shTup_eq hx
    have g1 := (hp G W cl io b X cx).2 es h
    refine GE.ofV rfl (pe_imp (pe_tup g1) fun σ H Q ⟨P, F, ρ, rel, fin⟩ => ?_)
    have fin : Fn G P io W (AV G) F σ H ((den cl p ρ).bind fun y ρ => R.of (tupOk y) ρ) Q := fin
    refine ⟨P, F, ρ, rel, Fn.mono (Fn.bind (A := AA G) fin) fun vs H1 ⟨F1, y, ρ1, e1, rel1, ⟨ps, ey, ra⟩, fin1⟩ => ?_⟩
    subst ey
    obtain ⟨w, hw, q⟩ := Fn.res rel1 fin1
    unfold tupOk at hw
    obtain ⟨hz, rfl⟩ := rp_some hw
    have z : vs.length ≤ sizeLine := by rw [← ra.length]; exact le_line hz
    exact ⟨z, q.tup rel1.pre' ra z⟩
  · cases h
theorem snd_lst (hp : SndX C p) : SndX C (.lst p) := by
  refine fun G W cl io b X cx => ⟨fun e h => ?_, by (exact fun es h => nomatch (show false = true from h))⟩
  replace h : (match shLst e with | some es => okX C p b (.inr es) | none => false) = true := h
  split at h
  · rename_i es hx
    obtain ⟨pos, rfl⟩ := shLst_eq hx
    have g1 := (hp G W cl io b X cx).2 es h
    refine GE.ofF rfl (pe_imp (pe_lst g1) fun σ H Q ⟨P, F, ρ, rel, fin⟩ => ?_)
    have fin : Fn G P io W (AF G σ H) F σ H ((den cl p ρ).bind fun y ρ => R.of (lstOk y) ρ) Q := fin
    refine ⟨P, F, ρ, rel, Fn.mono (Fn.bind (A := AA G) fin) fun vs H1 ⟨F1, y, ρ1, e1, rel1, ⟨ps, ey, ra⟩, fin1⟩ => ?_⟩
    subst ey
    obtain ⟨w, hw, q⟩ := Fn.resB (fun b hb => e1.nope hb) rel1 fin1
    unfold lstOk at hw
    obtain ⟨hz, rfl⟩ := rp_some hw
    have z : vs.length ≤ sizeLine := by rw [← ra.length]; exact le_line hz
    exact ⟨z, q.lst rel1.pre' ra z⟩
  · cases h
theorem un1 {X : Cx} (hu : X.A.units + 65 < cLine) : X.A.units + 1 < cLine := by omega
theorem snd_ix (hp : SndX C p) (hq : SndX C q) : SndX C (.ix p q) := by
  refine fun G W cl io b X cx => ⟨fun e h => ?_, by (exact fun es h => nomatch (show false = true from h))⟩
  replace h : (match shIx e with | some (x, y) => okX C p b (.inl x) && okX C q b (.inl y) | none => false) = true := h
  split at h
  · rename_i x y hx
    obtain ⟨pos, rfl, pl⟩ := shIx_eq hx
    have h := and2 h
    have g1 := (hp G W cl io b X cx).1 x h.1
    have g2 := (hq G W cl io b X cx).1 y h.2
    exact GE.ofV rfl (pe_imp (pe_ix (ix_any (un1 cx.un)) g1.ee g2.ee (plainIx_ok pl)) (bin_tE rfl fun P F H Q x y u v w pr rx ry hv q => ok_ix rx ry hv fun z rz => q.here pr rz))
  · cases h
theorem snd_ixS {i : Nat} (hq : SndX C q) : SndX C (.ixS i q) := by
  refine fun G W cl io b X cx => ⟨fun e h => ?_, by (exact fun es h => nomatch (show false = true from h))⟩
  replace h : (match shIx e with | some (x, y) => (match shName x with | some z => nmOk C b i z | none => false) && okX C q b (.inl y) | none => false) = true := h
  split at h
  · rename_i x y hx
    obtain ⟨pos, rfl, pl⟩ := shIx_eq hx
    obtain ⟨h1, h2⟩ := and2 h
    split at h1
    · rename_i z hz
      obtain ⟨pz, rfl⟩ := shName_eq hz
      have g2 := (hq G W cl io b X cx).1 y h2
      refine GE.ofV rfl (pe_imp (pe_ix (ix_any (un1 cx.un)) (cx.nm h1).2.2 g2.ee (plainIx_ok pl)) fun σ H Q ⟨P, F, ρ, rel, fin⟩ => ?_)
      have fin : Fn G P io W (AV G) F σ H (if (peek i ρ).isSome then ((sem cl q).v ρ).bind fun y ρ => .of ((peek i ρ).bind fun x => index x y) ρ else .stuck) Q := fin
      split at fin
      case isFalse => exact fin.elim
      rename_i hpk
      obtain ⟨p0, hp0⟩ := Option.isSome_iff_exists.mp hpk
      obtain ⟨x, hx, _⟩ := rel.peek hp0
      refine ⟨x, hx, P, F, ρ, rel, Fn.mono (Fn.bind (A := AV G) fin) fun y H1 ⟨F1, u, ρ1, e1, rel1, a1, fin1⟩ => ?_⟩
      obtain ⟨w, hw, q⟩ := Fn.res rel1 fin1
      cases hp1 : peek i ρ1 with
      | none => rw [hp1] at hw; cases hw
      | some p1 =>
        rw [hp1] at hw
        obtain ⟨x', hx', ro⟩ := rel1.peek hp1
        rw [hx] at hx'; cases hx'
        exact ok_ixO ro a1 hw fun z rz => q.here rel1.pre' rz
    · cases h1
  · cases h
theorem okO_po {p : PX} {o : Option Expr} (cx : CX1 G W cl io C b X) (hp : SndX C p) (h : okO (fun e => okX C p b (.inl e)) p o = true) : PO X o (tO G W cl io p) := by
  cases o with
  | none =>
    have h : isNil p = true := h
    cases p <;> first | (cases h; done) | skip
    exact po_imp po_none fun σ H Q ⟨P, F, ρ, rel, fin⟩ => fin F H none (Ext.refl rel.pre) rel rfl
  | some e =>
    obtain ⟨h1, h2⟩ := and2 h
    have g := (hp G W cl io b X cx).1 e h2
    have hs : oOf p (sem cl p) = fun ρ => ((sem cl p).v ρ).bind fun x ρ => .of (optInt x) ρ := by cases p <;> first | rfl | (cases h1; done)
    refine po_imp (po_some g.ee) fun σ H Q ⟨P, F, ρ, rel, fin⟩ => ?_
    rw [hs] at fin
    refine ⟨P, F, ρ, rel, Fn.mono (Fn.bind (A := AV G) fin) fun x H1 ⟨F1, u, ρ1, e1, rel1, a1, fin1⟩ => ?_⟩
    obtain ⟨w, hw, q⟩ := Fn.of fin1
    unfold optInt at hw
    split at hw
    · cases hw
      rename_i i
      unfold Rp at a1
      exact ⟨i, a1, q F1 H1 _ (Ext.refl rel1.pre) rel1 rfl⟩
    · cases hw
end
end Pu
end

section
set_option Elab.async false
set_option linter.all false
set_option maxRecDepth 100000
namespace Pu
open PySem PySem.Spec PyProof.Rows L2 PySem.W RZ

section
variable {G : Th} {W : WX} {cl : Nat → Option (List PV) → List PV → Outc} {io : Option Addr} {C : Ck} {b : Bk} {X : Cx} {p q r a : PX} {e : Expr}
theorem snd_sl {lo hi : PX} (hp : SndX C p) (hl : SndX C lo) (hh : SndX C hi) : SndX C (.sl p lo hi) := by
  refine fun G W cl io b X cx => ⟨fun e h => ?_, by (exact fun es h => nomatch (show false = true from h))⟩
  replace h : (match shSl e with | some (x, l, h) => okX C p b (.inl x) && okO (fun e => okX C lo b (.inl e)) lo l && okO (fun e => okX C hi b (.inl e)) hi h | none => false) = true := h
  split at h
  · rename_i x l u hx
    obtain ⟨p2, pos, rfl⟩ := shSl_eq hx
    obtain ⟨h, h3⟩ := and2 h
    obtain ⟨h1, h2⟩ := and2 h
    have g1 := (hp G W cl io b X cx).1 x h1
    have o1 := okO_po cx hl h2
    have o2 := okO_po cx hh h3
    refine GE.ofF rfl (pe_imp (pe_slice sl_any g1.ee o1 o2) fun σ H Q ⟨P, F, ρ, rel, fin⟩ => ⟨P, F, ρ, rel, Fn.mono (Fn.bind (A := AV G) fin) fun x H1 ⟨F1, u, ρ1, e1, rel1, a1, fin1⟩ =>
      ⟨P, F1, ρ1, rel1, Fn.mono (Fn.bind (A := AE) fin1) fun l H2 ⟨F2, l', ρ2, e2, rel2, a2, fin2⟩ => ⟨P, F2, ρ2, rel2, Fn.mono (Fn.bind (A := AE) fin2) fun h H3 ⟨F3, h', ρ3, e3, rel3, a3, fin3⟩ => ?_⟩⟩⟩)
    have a2 : l' = l := a2
    have a3 : h' = h := a3
    subst a2 a3
    obtain ⟨w, hw, q⟩ := Fn.resB (fun b hb => e1.nope (e2.nope (e3.nope hb))) rel3 fin3
    exact ok_sl rel3.pre' (e3.rp (e2.rp a1)) hw q
  · cases h
theorem snd_rev (hp : SndX C p) : SndX C (.rev p) := by
  refine fun G W cl io b X cx => ⟨fun e h => ?_, by (exact fun es h => nomatch (show false = true from h))⟩
  replace h : (match shRev e with | some x => okX C p b (.inl x) | none => false) = true := h
  split at h
  · rename_i x hx
    obtain ⟨k, p1, p2, p3, pos, rfl⟩ := shRev_eq hx
    have g1 := (hp G W cl io b X cx).1 x h
    refine GE.ofF rfl (pe_imp (pe_revL g1.ee) (un_tF (r := fun x H Q => ∃ a xs, x = .ref a ∧ SqL X.K H a xs ∧ ∀ p, H p = none → Q (.ref p) (upd H p (.lst xs.reverse))) rfl fun P F H Q x u w pr rx hv q => ?_))
    unfold rev at hv
    split at hv
    · cases hv
      obtain ⟨a, vs, rfl, _, hs, z, ra⟩ := rp_lst (K := X.K) rx
      exact ⟨a, vs, rfl, hs, q.lst pr ra.reverse (by rw [List.length_reverse]; exact z)⟩
    · cases hv
  · cases h
/-- a built-in function or type called -/
theorem pe_blt {X : Cx} {v : Value} {x : Str} {e : Expr} {es : List Expr} {t : TA} {r : List V → Hp → VK → Prop} {p pos : Pos} (hv : (∃ id, v = .builtin id) ∨ ∃ T, v = .type T) (hc : CallR X v r) (hg : Gl X x) (hm : X.mg x = none) (hb : bootBuiltins x = some v) (ha : PA X (e :: es) t)
    (hn : x ≠ "__name__") (hdb : (x == ("__debug__" : Str)) = false) (hs : (e :: es).all notStar = true) : PE X (.Call (.Name x p) (e :: es) [] pos) (tCB r t) := by
  simp only [List.all_cons, Bool.and_eq_true] at hs
  rcases hv with ⟨id, rfl⟩ | ⟨T, rfl⟩
  · exact pe_callB hc hg hm hb ha hn hdb (starEach_ns hs.1) (back_any hs.2)
  · exact pe_callTy hc hg hm hb ha hn hdb (starEach_ns hs.1) (back_any hs.2)
theorem boot_b1 (f : B1) : bootBuiltins (b1N f) = some (b1V f) := by cases f <;> first | decide +kernel | exact boot_dict
theorem boot_b2 (f : B2) : bootBuiltins (b2N f) = some (b2V f) := by cases f <;> decide +kernel
theorem b1V_k (f : B1) : (∃ id, b1V f = .builtin id) ∨ ∃ T, b1V f = .type T := by cases f <;> first | exact .inl ⟨_, rfl⟩ | exact .inr ⟨_, rfl⟩
theorem b2V_k (f : B2) : (∃ id, b2V f = .builtin id) ∨ ∃ T, b2V f = .type T := by cases f <;> first | exact .inl ⟨_, rfl⟩ | exact .inr ⟨_, rfl⟩
theorem pa1 {X : Cx} {e : Expr} {t : TE} (h : PE X e t) (n : notStar e = true) : PA X [e] (tCons t tNil) := pa_cons h pa_nil (starEach_ns n)
theorem pa2 {X : Cx} {e e2 : Expr} {t t2 : TE} (h : PE X e t) (h2 : PE X e2 t2) (n : notStar e = true) (n2 : notStar e2 = true) : PA X [e, e2] (tCons t (tCons t2 tNil)) := pa_cons h (pa1 h2 n2) (starEach_ns n)
theorem all1 {e : Expr} (h : [e].all notStar = true) : notStar e = true := by simpa using h
theorem all2 {e e2 : Expr} (h : [e, e2].all notStar = true) : notStar e = true ∧ notStar e2 = true := by simpa using h
theorem snd_b1 {f : B1} (hp : SndX C p) : SndX C (.b1 f p) := by
  refine fun G W cl io b X cx => ⟨fun e h => ?_, by (exact fun es h => nomatch (show false = true from h))⟩
  replace h : (match shCall e with | some (x, [a]) => decide (x = b1N f) && isFree C b x && okX C p b (.inl a) | _ => false) = true := h
  split at h
  · rename_i x a hx
    obtain ⟨p1, pos, rfl, ns⟩ := shCall_eq hx
    obtain ⟨h, h3⟩ := and2 h
    obtain ⟨h1, h2⟩ := and2 h
    have h1 := of_decide_eq_true h1
    subst h1
    obtain ⟨hg, hm, hd, hn⟩ := cx.free h2
    have g1 := (hp G W cl io b X cx).1 a h3
    exact GE.ofF rfl (pe_imp (pe_blt (b1V_k f) (call_b1 cx.calm cx.un f) hg hm (boot_b1 f) (pa1 g1.ee (all1 ns)) hn hd ns) (un_tF (r := fun x H Q => rB1 X.K f [x] H Q) rfl fun P F H Q x u w pr rx hv q => ok_b1 pr rx hv q))
  · cases h
theorem snd_b2 {f : B2} (hp : SndX C p) (hq : SndX C q) : SndX C (.b2 f p q) := by
  refine fun G W cl io b X cx => ⟨fun e h => ?_, by (exact fun es h => nomatch (show false = true from h))⟩
  replace h : (match shCall e with | some (x, [a, c]) => decide (x = b2N f) && isFree C b x && okX C p b (.inl a) && okX C q b (.inl c) | _ => false) = true := h
  split at h
  · rename_i x a c hx
    obtain ⟨p1, pos, rfl, ns⟩ := shCall_eq hx
    obtain ⟨h, h4⟩ := and2 h
    obtain ⟨h, h3⟩ := and2 h
    obtain ⟨h1, h2⟩ := and2 h
    have h1 := of_decide_eq_true h1
    subst h1
    obtain ⟨hg, hm, hd, hn⟩ := cx.free h2
    have g1 := (hp G W cl io b X cx).1 a h3
    have g2 := (hq G W cl io b X cx).1 c h4
    exact GE.ofV rfl (pe_imp (pe_blt (b2V_k f) (call_b2 cx.calm f) hg hm (boot_b2 f) (pa2 g1.ee g2.ee (all2 ns).1 (all2 ns).2) hn hd ns) (bin_tE (r := fun x y H Q => rB2 f [x, y] H Q) rfl fun P F H Q x y u v w pr rx ry hv q => ok_b2 pr rx ry hv (q.toB pr)))
  · cases h
theorem ok_lenO {P F : Addr → Prop} {H : Hp} {Q : VK} {K : PySem.W.Frag} {p w : PV} {x : V} (pr : Pre G P F H) (ro : Rp G F H p x ∨ ∃ a, x = .ref a ∧ Obj_ G F H p a) (hw : b1 .len p = some w) (q : Res G P F H w Q) : rB1 K .len [x] H Q := by
  rcases ro with rx | ⟨a, rfl, ob⟩
  · exact ok_b1 pr rx hw (q.toB pr)
  · rcases ob with ⟨us, ws, rfl, hb, hz, ra⟩ | ⟨ks, us, ms, ws, rfl, hb, hz, hz2, hk, ra⟩ | ⟨ks, us, ms, ws, rfl, hb, hz, hz2, hk, ra⟩
    · cases hw
      exact .inl ⟨_, _, rfl, .inl ⟨ws, SqL.of hb, ra.length⟩, q.int pr⟩
    · cases hw
      have e := congrArg List.length hk
      simp only [List.length_map] at e
      have e2 : (ms.zip ws).length = ms.length := by rw [List.length_zip, ← hz, Nat.min_self]
      exact .inr (.inl ⟨a, _, rfl, hb, by rw [e2, ← e]; exact q.int pr⟩)
    · cases hw
      have e := congrArg List.length hk
      simp only [List.length_map] at e
      have e2 : (ms.zip ws).length = ms.length := by rw [List.length_zip, ← hz, Nat.min_self]
      exact .inr (.inr ⟨a, _, rfl, hb, by rw [e2, ← e]; exact q.int pr⟩)
theorem snd_lenS {i : Nat} : SndX C (.lenS i) := by
  refine fun G W cl io b X cx => ⟨fun e h => ?_, by (exact fun es h => nomatch (show false = true from h))⟩
  replace h : (match shCall e with | some (x, [a]) => decide (x = b1N .len) && isFree C b x && (match shName a with | some z => nmOk C b i z | none => false) | _ => false) = true := h
  split at h
  · rename_i x a hx
    obtain ⟨p1, pos, rfl, ns⟩ := shCall_eq hx
    obtain ⟨h, h3⟩ := and2 h
    obtain ⟨h1, h2⟩ := and2 h
    have h1 := of_decide_eq_true h1
    subst h1
    obtain ⟨hg, hm, hd, hn⟩ := cx.free h2
    split at h3
    · rename_i z hz
      obtain ⟨pz, rfl⟩ := shName_eq hz
      refine GE.ofV rfl (pe_imp (pe_blt (b1V_k .len) (call_b1 cx.calm cx.un .len) hg hm (boot_b1 .len) (pa1 (cx.nm h3).2.2 rfl) hn hd ns) fun σ H Q ⟨P, F, ρ, rel, fin⟩ => ?_)
      obtain ⟨w, hw, q⟩ := Fn.res rel fin
      cases hp1 : peek i ρ with
      | none => rw [hp1] at hw; cases hw
      | some p1 =>
        rw [hp1] at hw
        obtain ⟨x, hx, ro⟩ := rel.peek hp1
        exact ⟨x, hx, ok_lenO rel.pre' ro hw q⟩
    · cases h3
  · cases h
theorem ofS {u : String} {x : Str} (h : x = Str.ofString u) : x = (u : Str) := h
theorem boot_ty {t : TyN} {u : String} (h : tyS t = [u]) : bootBuiltins (Str.ofString u) = some (.type u) := by
  cases t <;> simp only [tyS, List.cons.injEq, and_true, reduceCtorEq, and_false] at h <;> subst h <;> decide +kernel
theorem snd_isi {t : TyN} (hp : SndX C p) : SndX C (.isi p t) := by
  refine fun G W cl io b X cx => ⟨fun e h => ?_, by (exact fun es h => nomatch (show false = true from h))⟩
  replace h : (match shCall e with | some (x, [a, c]) => decide (x = "isinstance") && isFree C b x && okX C p b (.inl a) && (match tyNm t c with | some u => isFree C b (Str.ofString u) | none => false) | _ => false) = true := h
  split at h
  · rename_i x a c hx
    obtain ⟨p1, pos, rfl, ns⟩ := shCall_eq hx
    obtain ⟨h, h4⟩ := and2 h
    obtain ⟨h, h3⟩ := and2 h
    obtain ⟨h1, h2⟩ := and2 h
    have h1 := of_decide_eq_true h1
    subst h1
    obtain ⟨hg, hm, hd, hn⟩ := cx.free h2
    have g1 := (hp G W cl io b X cx).1 a h3
    split at h4
    · rename_i u hu
      unfold tyNm at hu
      split at hu
      · rename_i u' y py ht
        obtain ⟨ey, eu⟩ := rp_some hu
        subst ey eu
        obtain ⟨hg2, hm2, hd2, hn2⟩ := cx.free h4
        have pc : PE X (.Name (Str.ofString u') py) (L2.tC (.ty u')) := pe_bltn hg2 hm2 (boot_ty ht) rfl hn2 hd2
        refine GE.ofV rfl (pe_imp (pe_blt (.inl ⟨_, rfl⟩) call_isi hg hm boot_isinstance (pa2 g1.ee pc (all2 ns).1 (all2 ns).2) hn hd ns) (un_tE (r := fun x H Q => rIsi X.K [x, .ty u'] H Q) rfl fun P F H Q x u w pr rx hv q => ok_isi ht pr rx hv q))
      · cases hu
    · cases h4
  · cases h
theorem snd_inS {n : Bool} {i : Nat} (hp : SndX C p) : SndX C (.inS n p i) := by
  refine fun G W cl io b X cx => ⟨fun e h => ?_, by (exact fun es h => nomatch (show false = true from h))⟩
  replace h : (match shCmp (if n then .NotIn else .In) e with | some (l, r) => okX C p b (.inl l) && (match shName r with | some z => nmOk C b i z | none => false) | none => false) = true := h
  split at h
  · rename_i l r hx
    obtain ⟨pos, rfl, ns⟩ := shCmp_eq hx
    obtain ⟨h1, h2⟩ := and2 h
    have g1 := (hp G W cl io b X cx).1 l h1
    split at h2
    · rename_i z hz
      obtain ⟨pz, rfl⟩ := shName_eq hz
      have eo : (if n then CmpOp.NotIn else CmpOp.In) = cop (if n then .notin else .isin) := by cases n <;> rfl
      have main : ∀ (f : V → Hp → Prop) (Qb : Bool → Hp → Prop), (∀ c H, Qb c H → f (.bl c) H) → ∀ σ H, tT G W cl io (.inS n p i) σ H Qb → tOp (rCmp X.K (if n then .notin else .isin)) (tE G W cl io p) (tVar i) σ H f := fun f Qb im σ H ⟨P, F, ρ, rel, fin⟩ => by
        refine ⟨P, F, ρ, rel, Fn.mono (Fn.bind (A := AV G) fin) fun x H1 ⟨F1, u, ρ1, e1, rel1, a1, fin1⟩ => ?_⟩
        obtain ⟨w, hw, q⟩ := Fn.bl rel1 fin1
        cases hp1 : peek i ρ1 with
        | none => rw [hp1] at hw; cases hw
        | some p1 =>
          rw [hp1] at hw
          obtain ⟨y, hy, ro⟩ := rel1.peek hp1
          obtain ⟨F', rp, fz, pr'⟩ := rpO_val rel1.pre ro
          exact ⟨y, hy, ok_cmp (Rp.mono fz (fun _ _ _ e _ => e) u x a1) rp (show cmpop _ u p1 = some w from hw) (im _ _ q)⟩
      rw [eo]
      exact GE.ofT rfl (pt_imp (pt_cmpR (op_cmp cx.un _) g1.ee (cx.nm h2).2.2 (marks_ns _ ns)) fun σ H Q t => main _ Q (fun c H q => ⟨c, rfl, q⟩) σ H t)
        (pe_imp (pe_cmpR (op_cmp cx.un _) g1.ee (cx.nm h2).2.2 (marks_ns _ ns)) fun σ H Q t => main Q _ (fun _ _ q => q) σ H (ofT_tE rfl σ H Q t))
    · cases h2
  · cases h
/-! ### calls -/
theorem passW {X : Cx} (tk : Takes X W) : ∀ σ, PassesAt (L2.CX X.prog X.w) X σ (WE W σ) := fun σ => passAt tk σ
theorem nil_tA : ∀ σ H Q, tA G W cl io .nil σ H Q → tNil σ H Q := fun σ H Q ⟨P, F, ρ, rel, fin⟩ => fin F H [] (Ext.refl rel.pre) rel ⟨[], rfl, RpA.nil⟩
theorem is_nil {l : PX} (h : okX C l b (.inr []) = true) : l = .nil := by
  cases l <;> first | rfl | exact nomatch (show false = true from h)
theorem pe_callG {X : Cx} {x : Str} {f : Nat} {fn : PFn} {es : List Expr} {l : PX} {p1 pos : Pos} (cx : CX1 G W cl io C b X) (h1 : isFn C b x f = true) (hf : C.tb[f]? = some fn) (ns : es.all notStar = true) (hl : okX C l b (.inr es) = true) (ha : PA X es (tA G W cl io l)) :
    PE X (.Call (.Name x p1) es [] pos) (tCallS (spOf G cl f fn) (WE W) (tA G W cl io l)) := by
  obtain ⟨hg, hm, hd⟩ := cx.isFn h1
  obtain ⟨k, hr, hF⟩ := cx.room
  obtain ⟨fd, ps, Fk, bi, kp⟩ := hF f fn hf
  cases es with
  | nil =>
    have := is_nil hl
    subst this
    exact pe_imp (pe_callSN Fk hr hg hm kp bi (passW cx.tk) hd) fun σ H Q h => nil_tA σ H _ h
  | cons e es =>
    simp only [List.all_cons, Bool.and_eq_true] at ns
    exact pe_callS Fk hr hg hm kp bi (passW cx.tk) ha hd (starEach_ns ns.1) (back_any ns.2)
theorem snd_call {f : Nat} (hp : SndX C p) : SndX C (.call f p) := by
  refine fun G W cl io b X cx => ⟨fun e h => ?_, by (exact fun es h => nomatch (show false = true from h))⟩
  replace h : (match shCall e with | some (x, es) => isFn C b x f && okX C p b (.inr es) && (match C.tb[f]? with | some fn => !fn.io && !fn.fr | none => false) | none => false) = true := h
  split at h
  · rename_i x es hx
    obtain ⟨p1, pos, rfl, ns⟩ := shCall_eq hx
    obtain ⟨h, h3⟩ := and2 h
    obtain ⟨h1, h2⟩ := and2 h
    split at h3
    · rename_i fn hf
      obtain ⟨h4, h5⟩ := and2 h3
      exact GE.ofV rfl (pe_imp (pe_callG cx h1 hf ns h2 ((hp G W cl io b X cx).2 es h2)) (call_tE cx hf (by simpa using h4) (by simpa using h5)))
    · cases h3
  · cases h
theorem snd_callF {f : Nat} (hp : SndX C p) : SndX C (.callF f p) := by
  refine fun G W cl io b X cx => ⟨fun e h => ?_, by (exact fun es h => nomatch (show false = true from h))⟩
  replace h : (match shCall e with | some (x, es) => isFn C b x f && okX C p b (.inr es) && (match C.tb[f]? with | some fn => !fn.io && fn.fr | none => false) | none => false) = true := h
  split at h
  · rename_i x es hx
    obtain ⟨p1, pos, rfl, ns⟩ := shCall_eq hx
    obtain ⟨h, h3⟩ := and2 h
    obtain ⟨h1, h2⟩ := and2 h
    split at h3
    · rename_i fn hf
      obtain ⟨h4, h5⟩ := and2 h3
      exact GE.ofF rfl (pe_imp (pe_callG cx h1 hf ns h2 ((hp G W cl io b X cx).2 es h2)) (call_tF cx hf (by simpa using h4) h5))
    · cases h3
  · cases h
theorem snd_callIO {f i : Nat} (hp : SndX C p) : SndX C (.callIO f i p) := by
  refine fun G W cl io b X cx => ⟨fun e h => ?_, by (exact fun es h => nomatch (show false = true from h))⟩
  replace h : (match shCall e with | some (x, a :: es) => isFn C b x f && (match shName a with | some z => nmOk C b i z | none => false) && okX C p b (.inr es) && (match C.tb[f]? with | some fn => fn.io | none => false) | _ => false) = true := h
  split at h
  · rename_i x a es hx
    obtain ⟨p1, pos, rfl, ns⟩ := shCall_eq hx
    obtain ⟨h, h4⟩ := and2 h
    obtain ⟨h, h3⟩ := and2 h
    obtain ⟨h1, h2⟩ := and2 h
    split at h4
    · rename_i fn hf
      split at h2
      · rename_i z hz
        obtain ⟨pz, rfl⟩ := shName_eq hz
        obtain ⟨hg, hm, hd⟩ := cx.isFn h1
        obtain ⟨k, hr, hF⟩ := cx.room
        obtain ⟨fd, ps, Fk, bi, kp⟩ := hF f fn hf
        simp only [List.all_cons, Bool.and_eq_true] at ns
        exact GE.ofV rfl (pe_imp (pe_callS Fk hr hg hm kp bi (passW cx.tk) (pa_cons (cx.nm h2).2.2 ((hp G W cl io b X cx).2 es h3) (starEach_ns ns.1)) hd (starEach_ns ns.1) (back_any ns.2)) (callIO_tE cx hf h4))
      · cases h2
    · cases h4
  · cases h
/-! ### what a for walks -/
theorem st1 {X : Cx} {e : Expr} (h : notStar e = true) : starEach [e] X.env = [(false, eval e X.env)] := starEach_ns h
theorem snd_rng1 (hp : SndX C p) : SndX C (.rng1 p) := by
  refine fun G W cl io b X cx => ⟨fun e h => ?_, by (exact fun es h => nomatch (show false = true from h))⟩
  replace h : (match shCall e with | some (x, [a]) => decide (x = "range") && isFree C b x && okX C p b (.inl a) | _ => false) = true := h
  split at h
  · rename_i x a hx
    obtain ⟨p1, pos, rfl, ns⟩ := shCall_eq hx
    obtain ⟨h, h3⟩ := and2 h
    obtain ⟨h1, h2⟩ := and2 h
    have h1 := of_decide_eq_true h1
    subst h1
    obtain ⟨hg, hm, hd, hn⟩ := cx.free h2
    have g1 := (hp G W cl io b X cx).1 a h3
    have n1 := all1 ns
    refine GE.ofI rfl fun tg _ => pi_imp (pi_range1 hg hm (pa1 g1.ee n1) (st1 n1)) fun σ H R ⟨P, F, ρ, rel, fin⟩ => ⟨P, F, ρ, rel, Fn.mono (Fn.bind (A := AV G) fin) fun x H1 ⟨F1, u, ρ1, e1, rel1, a1, fin1⟩ => ?_⟩
    unfold rng1P at fin1
    split at fin1
    · rename_i n
      split at fin1
      · rename_i hs
        unfold Rp at a1
        subst a1
        obtain ⟨s1, s2⟩ := small_of hs
        exact ⟨n, rfl, s1, s2, fin1 F1 H1 _ (Ext.refl rel1.pre) rel1 (wk_rng1 rel1.pre)⟩
      · exact fin1.elim
    · exact fin1.elim
  · cases h
theorem snd_rng2 (hp : SndX C p) (hq : SndX C q) : SndX C (.rng2 p q) := by
  refine fun G W cl io b X cx => ⟨fun e h => ?_, by (exact fun es h => nomatch (show false = true from h))⟩
  replace h : (match shCall e with | some (x, [a, c]) => decide (x = "range") && isFree C b x && okX C p b (.inl a) && okX C q b (.inl c) | _ => false) = true := h
  split at h
  · rename_i x a c hx
    obtain ⟨p1, pos, rfl, ns⟩ := shCall_eq hx
    obtain ⟨h, h4⟩ := and2 h
    obtain ⟨h, h3⟩ := and2 h
    obtain ⟨h1, h2⟩ := and2 h
    have h1 := of_decide_eq_true h1
    subst h1
    obtain ⟨hg, hm, hd, hn⟩ := cx.free h2
    have g1 := (hp G W cl io b X cx).1 a h3
    have g2 := (hq G W cl io b X cx).1 c h4
    obtain ⟨n1, n2⟩ := all2 ns
    refine GE.ofI rfl fun tg _ => pi_imp (pi_range2 hg hm (pa2 g1.ee g2.ee n1 n2) (by rw [starEach_ns n1, starEach_ns n2]; rfl) (st1 n2)) fun σ H R ⟨P, F, ρ, rel, fin⟩ => ⟨P, F, ρ, rel, Fn.mono (Fn.bind (A := AV G) fin) fun x H1 ⟨F1, u, ρ1, e1, rel1, a1, fin1⟩ =>
      ⟨P, F1, ρ1, rel1, Fn.mono (Fn.bind (A := AV G) fin1) fun y H2 ⟨F2, v, ρ2, e2, rel2, a2, fin2⟩ => ?_⟩⟩
    unfold rng2P at fin2
    split at fin2
    · rename_i i j
      split at fin2
      · rename_i hs
        unfold Rp at a1 a2
        subst a1 a2
        obtain ⟨s1, s2⟩ := and2 hs
        obtain ⟨s3, s4⟩ := small_of s1
        obtain ⟨s5, s6⟩ := small_of s2
        exact ⟨_, _, rfl, ⟨s3, s4, s5, s6⟩, fin2 F2 H2 _ (Ext.refl rel2.pre) rel2 (wk_rng1 rel2.pre)⟩
      · exact fin2.elim
    · exact fin2.elim
  · cases h
theorem snd_rng3 {c : Int} (hp : SndX C p) (hq : SndX C q) : SndX C (.rng3 p q c) := by
  refine fun G W cl io b X cx => ⟨fun e h => ?_, by (exact fun es h => nomatch (show false = true from h))⟩
  replace h : (match shCall e with | some (x, [a, d, s]) => decide (x = "range") && isFree C b x && okX C p b (.inl a) && okX C q b (.inl d) && (match shUn .USub s with | some (.Constant (.int 1) _ _) => decide (c = -1) | _ => false) | _ => false) = true := h
  split at h
  · rename_i x a d s hx
    obtain ⟨p1, pos, rfl, ns⟩ := shCall_eq hx
    obtain ⟨h, h5⟩ := and2 h
    obtain ⟨h, h4⟩ := and2 h
    obtain ⟨h, h3⟩ := and2 h
    obtain ⟨h1, h2⟩ := and2 h
    have h1 := of_decide_eq_true h1
    subst h1
    obtain ⟨hg, hm, hd, hn⟩ := cx.free h2
    have g1 := (hp G W cl io b X cx).1 a h3
    have g2 := (hq G W cl io b X cx).1 d h4
    simp only [List.all_cons, List.all_nil, Bool.and_true, Bool.and_eq_true] at ns
    obtain ⟨n1, n2, n3⟩ := ns
    split at h5
    · rename_i k1 k2 hs
      obtain ⟨p3, rfl⟩ := shUn_eq hs
      have hc := of_decide_eq_true h5
      subst hc
      have pk : PE X (.UnaryOp .USub (.Constant (.int 1) k1 k2) p3) (tUn (rU fun i => .int (-i)) (L2.tC (.int 1))) := pe_un un_neg pe_int
      refine GE.ofI rfl fun tg _ => pi_imp (pi_range3 hg hm (pa_cons g1.ee (pa2 g2.ee pk n2 n3) (starEach_ns n1)) (starEach_ns n1) (back_any (by simp [n2, n3]))) fun σ H R ⟨P, F, ρ, rel, fin⟩ => ⟨P, F, ρ, rel, Fn.mono (Fn.bind (A := AV G) fin) fun x H1 ⟨F1, u, ρ1, e1, rel1, a1, fin1⟩ =>
        ⟨P, F1, ρ1, rel1, Fn.mono (Fn.bind (A := AV G) fin1) fun y H2 ⟨F2, v, ρ2, e2, rel2, a2, fin2⟩ => ?_⟩⟩
      refine ⟨1, rfl, ?_⟩
      unfold rng3P at fin2
      split at fin2
      · rename_i i j
        split at fin2
        · rename_i hs
          unfold Rp at a1 a2
          subst a1 a2
          obtain ⟨s1, _⟩ := and2 hs
          obtain ⟨s1, s2⟩ := and2 s1
          obtain ⟨s3, s4⟩ := small_of s1
          obtain ⟨s5, s6⟩ := small_of s2
          exact ⟨_, _, -1, _, rfl, RgC.neg s3 s4 s5 s6, fin2 F2 H2 _ (Ext.refl rel2.pre) rel2 (wk_rng rel2.pre)⟩
        · exact fin2.elim
      · exact fin2.elim
    · cases h5
  · cases h
theorem snd_enum (hp : SndX C p) : SndX C (.enum p) := by
  refine fun G W cl io b X cx => ⟨fun e h => ?_, by (exact fun es h => nomatch (show false = true from h))⟩
  replace h : (match shCall e with | some (x, [a]) => decide (x = "enumerate") && isFree C b x && okX C p b (.inl a) | _ => false) = true := h
  split at h
  · rename_i x a hx
    obtain ⟨p1, pos, rfl, ns⟩ := shCall_eq hx
    obtain ⟨h, h3⟩ := and2 h
    obtain ⟨h1, h2⟩ := and2 h
    have h1 := of_decide_eq_true h1
    subst h1
    obtain ⟨hg, hm, hd, hn⟩ := cx.free h2
    have g1 := (hp G W cl io b X cx).1 a h3
    have n1 := all1 ns
    refine GE.ofI rfl fun tg ht => ?_
    have ht : isTup tg = true := ht
    cases tg <;> first | (cases ht; done) | skip
    refine pi_imp (pi_enum hg hm (pa1 g1.ee n1) (st1 n1)) fun σ H R ⟨P, F, ρ, rel, fin⟩ => ⟨P, F, ρ, rel, Fn.mono (Fn.bind (A := AV G) fin) fun x H1 ⟨F1, u, ρ1, e1, rel1, a1, fin1⟩ => ?_⟩
    obtain ⟨w, hw, q⟩ := Fn.of fin1
    obtain ⟨xs, hxs, rfl⟩ := omap hw
    exact ok_enum rel1.pre a1 hxs fun J wk => q F1 H1 J (Ext.refl rel1.pre) rel1 wk
  · cases h
theorem snd_zip (hp : SndX C p) (hq : SndX C q) : SndX C (.zip p q) := by
  refine fun G W cl io b X cx => ⟨fun e h => ?_, by (exact fun es h => nomatch (show false = true from h))⟩
  replace h : (match shCall e with | some (x, [a, c]) => decide (x = "zip") && isFree C b x && okX C p b (.inl a) && okX C q b (.inl c) | _ => false) = true := h
  split at h
  · rename_i x a c hx
    obtain ⟨p1, pos, rfl, ns⟩ := shCall_eq hx
    obtain ⟨h, h4⟩ := and2 h
    obtain ⟨h, h3⟩ := and2 h
    obtain ⟨h1, h2⟩ := and2 h
    have h1 := of_decide_eq_true h1
    subst h1
    obtain ⟨hg, hm, hd, hn⟩ := cx.free h2
    have g1 := (hp G W cl io b X cx).1 a h3
    have g2 := (hq G W cl io b X cx).1 c h4
    obtain ⟨n1, n2⟩ := all2 ns
    refine GE.ofI rfl fun tg ht => ?_
    have ht : isTup tg = true := ht
    cases tg <;> first | (cases ht; done) | skip
    refine pi_imp (pi_zipA hg hm (pa2 g1.ee g2.ee n1 n2) (starEach_ns n1) (back_any (by simpa using n2))) fun σ H R ⟨P, F, ρ, rel, fin⟩ => ⟨P, F, ρ, rel, Fn.mono (Fn.bind (A := AV G) fin) fun x H1 ⟨F1, u, ρ1, e1, rel1, a1, fin1⟩ =>
      ⟨P, F1, ρ1, rel1, Fn.mono (Fn.bind (A := AV G) fin1) fun y H2 ⟨F2, v, ρ2, e2, rel2, a2, fin2⟩ => ?_⟩⟩
    obtain ⟨w, hw, q⟩ := Fn.of fin2
    exact ok_zip rel2.pre (e2.rp a1) a2 hw fun J wk => q F2 H2 J (Ext.refl rel2.pre) rel2 wk
  · cases h
/-! ### a list made by running -/
theorem own_snd {vs : List Nat} : (ownL C vs).map (·.2) = vs := by
  unfold ownL; rw [List.map_map]
  conv => rhs; rw [← List.map_id vs]
  rfl
theorem cx_blk {X : Cx} (cx : CX1 G W cl io C b X) (scope : Scope) (s : Shared) (H : Hp) (Cc : Addr) (cs : List (Str × Addr)) (fp : List Addr) : CX1 G W0 cl io C (blkOf b scope) (X.blk s H scope (compEnvC scope cs Cc X.env) fp) := by
  obtain ⟨k, hr, hF⟩ := cx.room
  refine ⟨cx.N, cx.io, cx.nd, ?_, rfl, cx.calm, cx.un, cx.gl, ⟨k, hr, hF⟩, takes0, cx.fit⟩
  show relS scope X.env.scope = _
  rw [cx.sc]; rfl
theorem okIfs_pts {c : PX} {ifs : List Expr} (cx : CX1 G W cl io C b X) (hp : SndX C c) (h : okIfs (fun e => okX C c b (.inl e)) c ifs = true) : PTs X ifs (tC G W cl io c) := by
  match ifs with
  | [] =>
    have h : isNil c = true := h
    cases c <;> first | (cases h; done) | skip
    exact pts_imp pts_nil fun σ H Q ⟨P, F, ρ, rel, fin⟩ => fin F H true (Ext.refl rel.pre) rel rfl
  | [e] =>
    obtain ⟨h1, h2⟩ := and2 h
    have g := (hp G W cl io b X cx).1 e h2
    have hs : cOf c (sem cl c) = (sem cl c).t := by cases c <;> first | rfl | (cases h1; done)
    refine pts_imp (pts_one g.tt) fun σ H Q ⟨P, F, ρ, rel, fin⟩ => ?_
    rw [hs] at fin
    exact ⟨P, F, ρ, rel, fin⟩
  | _ :: _ :: _ => exact nomatch (show false = true from h)
theorem snd_comp {vs : List Nat} {tg : Tg} {it c : PX} (hi : SndX C it) (hc : SndX C c) (hp : SndX C p) : SndX C (.comp vs tg it c p) := by
  refine fun G W cl io b X cx => ⟨fun e h => ?_, by (exact fun es h => nomatch (show false = true from h))⟩
  replace h : (match shComp e with
    | some (elt, t, i, ifs, scope) => okX C it b (.inl i) && notSet i && tgI it t && blkC C.N b.sc scope (ownL C vs) && okTg C (blkOf b scope) tg (.inl t) &&
        okIfs (fun e => okX C c (blkOf b scope) (.inl e)) c ifs && okX C p (blkOf b scope) (.inl elt) && (tgs tg).all (fun i => vs.contains i) && (!b.io || !vs.contains 0)
    | none => false) = true := h
  split at h
  · rename_i elt t i ifs scope hx
    obtain ⟨pos, rfl⟩ := shComp_eq hx
    obtain ⟨h, h9⟩ := and2 h
    obtain ⟨h, h8⟩ := and2 h
    obtain ⟨h, h7⟩ := and2 h
    obtain ⟨h, h6⟩ := and2 h
    obtain ⟨h, h5⟩ := and2 h
    obtain ⟨h, h4⟩ := and2 h
    obtain ⟨h, h3⟩ := and2 h
    obtain ⟨h1, h2⟩ := and2 h
    have gi := (hi G W cl io b X cx).1 i h1
    have bo : BlkOk X.N X.env.scope scope (ownL C vs) := blkOk_by (by rw [cx.N, cx.sc]; exact h4)
    have main : PE X (.ListComp elt [⟨t, i, ifs, 0⟩] scope pos) (tLc (tI G W cl io it) (gT G io tg) (tC G W0 cl io c) (tE G W0 cl io p) ((ownL C vs).map (·.2))) :=
      pe_lc cx.calm (by rw [cx.N]; exact cx.nd) (gi.ii t h3) bo
        (fun s H Cc cs fp => (tg_both (cx_blk cx scope s H Cc cs fp) tg).1 t h5)
        (fun s H Cc cs fp => okIfs_pts (cx_blk cx scope s H Cc cs fp) hc h6)
        (fun s H Cc cs fp => ((hp G W0 cl io (blkOf b scope) _ (cx_blk cx scope s H Cc cs fp)).1 elt h7).ee)
        (folded_ns h2)
    rw [own_snd] at main
    refine GE.ofF rfl (pe_imp main (comp_tF (fun i hi => ?_) fun a ha z => ?_))
    · rw [List.all_eq_true] at h8
      simpa using h8 i hi
    · cases hb : b.io with
      | false => rw [cx.io hb] at ha; cases ha
      | true => rw [hb] at h9; simp at h9; exact h9 z
  · cases h
theorem snd_no {p : PX} (h1 : ∀ b e, okX C p b (.inl e) = false) (h2 : ∀ b es, okX C p b (.inr es) = false) : SndX C p := fun G W cl io b X cx => ⟨fun e h => (nomatch (h1 b e).symm.trans h), fun es h => (nomatch (h2 b es).symm.trans h)⟩
theorem sound : ∀ p : PX, SndX C p
  | .k c => snd_k c
  | .var i => snd_var i
  | .bin o a b => snd_bin (sound a) (sound b)
  | .neg a => snd_neg (sound a)
  | .not a => snd_not (sound a)
  | .one a => snd_one (sound a)
  | .and a b => snd_and (sound a) (sound b)
  | .or a b => snd_or (sound a) (sound b)
  | .ife c a b => snd_ife (sound c) (sound a) (sound b)
  | .cmp o a b => snd_cmp (sound a) (sound b)
  | .chain o o' a b c => snd_chain (sound a) (sound b) (sound c)
  | .nil => snd_nil
  | .cons a b => snd_cons (sound a) (sound b)
  | .tup l => snd_tup (sound l)
  | .lst l => snd_lst (sound l)
  | .ix a b => snd_ix (sound a) (sound b)
  | .ixS i b => snd_ixS (sound b)
  | .sl a lo hi => snd_sl (sound a) (sound lo) (sound hi)
  | .rev a => snd_rev (sound a)
  | .b1 f a => snd_b1 (sound a)
  | .b2 f a b => snd_b2 (sound a) (sound b)
  | .lenS i => snd_lenS
  | .isi a t => snd_isi (sound a)
  | .inS n a i => snd_inS (sound a)
  | .call f l => snd_call (sound l)
  | .callF f l => snd_callF (sound l)
  | .callIO f i l => snd_callIO (sound l)
  | .rng1 a => snd_rng1 (sound a)
  | .rng2 a b => snd_rng2 (sound a) (sound b)
  | .rng3 a b c => snd_rng3 (sound a) (sound b)
  | .enum a => snd_enum (sound a)
  | .zip a b => snd_zip (sound a) (sound b)
  | .comp vs tg it c e => snd_comp (sound it) (sound c) (sound e)
  | .dict0 _ => snd_no (fun _ _ => rfl) fun _ _ => rfl
  | .dict1 _ _ => snd_no (fun _ _ => rfl) fun _ _ => rfl
  | .m1 _ _ _ => snd_no (fun _ _ => rfl) fun _ _ => rfl
  | .m2 _ _ _ _ => snd_no (fun _ _ => rfl) fun _ _ => rfl
  | .getS _ _ _ => snd_no (fun _ _ => rfl) fun _ _ => rfl
  | .getS1 _ _ => snd_no (fun _ _ => rfl) fun _ _ => rfl
  | .popS _ _ => snd_no (fun _ _ => rfl) fun _ _ => rfl
  | .pop0 _ => snd_no (fun _ _ => rfl) fun _ _ => rfl
  | .callV _ _ => snd_no (fun _ _ => rfl) fun _ _ => rfl
  | .enum2 _ _ => snd_no (fun _ _ => rfl) fun _ _ => rfl
  | .dcomp _ _ _ _ _ _ _ => snd_no (fun _ _ => rfl) fun _ _ => rfl
end
end Pu
end

section
set_option Elab.async false
set_option linter.all false
set_option maxRecDepth 100000
namespace Pu
open PySem PySem.Spec PyProof.Rows L2 PySem.W RZ

section
variable (G : Th) (P : Addr → Prop) (io : Option Addr) (W : WX) (fr : Bool) (H₀ : Hp)
def RetR (σ : L2.St) (ρ : Sl) (F : Addr → Prop) (H : Hp) (v : PV) (x : V) : Prop := if fr then AF G σ H₀ ρ F H v x else Rp G F H v x
/-- what follows from what running a statement gives -/
def FnS (F : Addr → Prop) (H : Hp) : R Fl → Ends → Prop
  | .ok .nx ρ', D => ∀ F' σ' H', Ext G P F H F' H' → Rel G P F' io ρ' σ' H' → D.nx σ' H'
  | .ok .brk ρ', D => ∀ F' σ' H', Ext G P F H F' H' → Rel G P F' io ρ' σ' H' → D.bk σ' H'
  | .ok (.ret v) ρ', D => ∀ F' σ' H' x, Ext G P F H F' H' → Rel G P F' io ρ' σ' H' → RetR G fr H₀ σ' ρ' F' H' v x → D.rt x H'
  | .exc c vs ρ', _ => ∀ F' σ' H' d, Ext G P F H F' H' → Rel G P F' io ρ' σ' H' → ExcR G F' H' c vs d → W (.ref (G.ca c)) d σ' H'
  | .stuck, _ => False
end
/-- a statement's reading -/
def tS (G : Th) (W : WX) (cl : Nat → Option (List PV) → List PV → Outc) (fuel : Nat) (io : Option Addr) (fr : Bool) (H₀ : Hp) (p : PS') : TS := fun D σ H =>
  ∃ P F ρ, (∀ b, H b = none → H₀ b = none) ∧ Rel G P F io ρ σ H ∧ FnS G P io W fr H₀ F H (denS cl fuel p ρ) D
section
variable {G : Th} {W : WX} {cl : Nat → Option (List PV) → List PV → Outc} {fuel : Nat} {io : Option Addr} {fr : Bool} {H₀ : Hp} {C : Ck} {b : Bk} {X : Cx} {P F F' : Addr → Prop} {ρ : Sl} {σ : L2.St} {H H' : Hp} {α β : Type}
theorem FnS.from_ {r : R Fl} {D : Ends} (e : Ext G P F H F' H') (h : FnS G P io W fr H₀ F H r D) : FnS G P io W fr H₀ F' H' r D := by
  cases r with
  | ok a ρ' =>
    cases a with
    | nx => exact fun F2 σ2 H2 e2 r2 => h F2 σ2 H2 (e.trans e2) r2
    | brk => exact fun F2 σ2 H2 e2 r2 => h F2 σ2 H2 (e.trans e2) r2
    | ret v => exact fun F2 σ2 H2 x e2 r2 q => h F2 σ2 H2 x (e.trans e2) r2 q
  | exc c vs ρ' => exact fun F2 σ2 H2 d e2 r2 q => h F2 σ2 H2 d (e.trans e2) r2 q
  | stuck => exact h
/-- an expression first -/
theorem FnS.bind {A : Sl → (Addr → Prop) → Hp → α → β → Prop} {r : R α} {f : α → Sl → R Fl} {D : Ends} (h : FnS G P io W fr H₀ F H (r.bind f) D) :
    Fn G P io W A F σ H r (fun b H1 => ∃ F1 a ρ1, Ext G P F H F1 H1 ∧ Rel G P F1 io ρ1 σ H1 ∧ A ρ1 F1 H1 a b ∧ FnS G P io W fr H₀ F1 H1 (f a ρ1) D) := by
  cases r with
  | ok a ρ' => exact fun F' H' b e rel q => ⟨F', a, ρ', e, rel, q, FnS.from_ e h⟩
  | exc c vs ρ' => exact fun F' H' d e rel q => h F' σ H' d e rel q
  | stuck => exact h
/-- a statement first -/
theorem FnS.seq {r : R Fl} {f : Sl → R Fl} {D : Ends} {nx : L2.St → Hp → Prop} (h : FnS G P io W fr H₀ F H (r.bind fun fl ρ => match fl with | .nx => f ρ | .brk => .ok .brk ρ | .ret v => .ok (.ret v) ρ) D)
    (k : ∀ F' σ' H' ρ', Ext G P F H F' H' → Rel G P F' io ρ' σ' H' → FnS G P io W fr H₀ F' H' (f ρ') D → nx σ' H') : FnS G P io W fr H₀ F H r { D with nx := nx } := by
  cases r with
  | ok a ρ' =>
    cases a with
    | nx => exact fun F2 σ2 H2 e2 r2 => k F2 σ2 H2 ρ' e2 r2 (FnS.from_ e2 h)
    | brk => exact h
    | ret v => exact h
  | exc c vs ρ' => exact h
  | stuck => exact h
end
/-- what holds where a statement runs -/
structure CX2 (G : Th) (W : WX) (cl : Nat → Option (List PV) → List PV → Outc) (io : Option Addr) (C : Ck) (b : Bk) (X : Cx) : Prop extends CX1 G W cl io C b X where
  po : PassesOwn (model X.prog X.w) X.A X.env X.xe
  kd : b.sc.kind = .function

/-! ### forms of statements -/
def isComp : Expr → Bool
  | .ListComp _ _ _ _ | .SetComp _ _ _ _ | .DictComp _ _ _ _ _ => true
  | _ => false
theorem sw_nc {v : Expr} {o : Option Expr} {l : Nat} {env : Env} (h : isComp v = false) : swapsWith v o l env = pure false := by
  cases v <;> first | (cases h; done) | rfl
def swB (sc : Scope) (y : Str) (py pos : Pos) (scope : Scope) : Bool :=
  sc.names.lookup y == some .local && py.line == pos.line && !(scope.names.any fun (n, k) => n == y && (k == .local || k == .cell))
theorem sw_lc {elt : Expr} {gs : List Comprehension} {scope : Scope} {pos py : Pos} {y : Str} {l : Nat} {env : Env} (hk : env.scope.kind = .function) : swapsWith (.ListComp elt gs scope pos) (some (.Name y py)) l env = pure (swB env.scope y py pos scope) := by
  have hb : env.blockKind = .function := by unfold Env.blockKind; rw [hk]; rfl
  unfold swapsWith swB
  simp only [hb, Expr.pos]
  rfl
theorem sw_lcT {elt : Expr} {gs : List Comprehension} {scope : Scope} {pos : Pos} {es : List Expr} {k : Nat} {p : Pos} {l : Nat} {env : Env} : swapsWith (.ListComp elt gs scope pos) (some (.Tuple es k p)) l env = pure false := rfl
def notTupE : Expr → Bool
  | .Tuple _ _ _ => false
  | _ => true
def notLstE : Expr → Bool
  | .List _ _ => false
  | _ => true
theorem sws_none {t v : Expr} {env : Env} (h : (notTupE t && notLstE t) = true ∨ notTupE v = true) : swappedStores [t] v env = pure none := by
  unfold swappedStores
  rcases h with h | h
  · obtain ⟨h1, h2⟩ := Bool.and_eq_true_iff.mp h
    cases t <;> first | (cases h1; done) | (cases h2; done) | rfl
  · cases v <;> first | (cases h; done) | (cases t <;> rfl)
/-- two names at once -/
def parB (sc : Scope) (x : Str) (px : Pos) (y : Str) (py : Pos) (u v : Expr) : Bool :=
  sc.names.lookup x == some .local && sc.names.lookup y == some .local && py.line == px.line && !(x == y) && notStar u && notStar v && !([u, v].all (foldedForSure 8)) && !([u, v].all (constantsAlone 8))
theorem sw_par {x y : Str} {px py pt : Pos} {u v : Expr} {kt k2 : Nat} {p2 : Pos} {env : Env} (hk : env.scope.kind = .function) (h : parB env.scope x px y py u v = true) :
    swappedStores [.Tuple [.Name x px, .Name y py] kt pt] (.Tuple [u, v] k2 p2) env = pure (some [x, y]) := by
  unfold parB at h
  simp only [Bool.and_eq_true, beq_iff_eq, Bool.not_eq_true'] at h
  obtain ⟨⟨⟨⟨⟨⟨⟨h1, h2⟩, h3⟩, h4⟩, h5⟩, h6⟩, h7⟩, h8⟩ := h
  have hb : env.blockKind = .function := by unfold Env.blockKind; rw [hk]; rfl
  have k1 : env.kindOf x = some .local := h1
  have k2 : env.kindOf y = some .local := h2
  unfold swappedStores
  simp only [List.length_cons, List.length_nil, hb, Expr.pos, List.head?_cons, Option.map_some, Option.getD_some, List.filterMap_cons, List.filterMap_nil, k1, k2, h3]
  have e : (some NameKind.local == some NameKind.local && px.line == px.line) = true := by simp
  have d : [x, y].eraseDups = [x, y] := by
    have h4' : (y == x) = false := by rw [BEq.comm]; exact h4
    simp [List.eraseDups_cons, h4']
  rw [if_neg (by decide), if_neg (by clear h7 h8; cases u <;> first | (cases h5; done) | (cases v <;> first | (cases h6; done) | exact Bool.false_ne_true))]
  simp only [e, if_true]
  rw [d, if_neg (by simp), if_neg (by rw [h7]; exact Bool.false_ne_true), if_neg (by rw [h8]; exact Bool.false_ne_true)]
end Pu
end

section
set_option Elab.async false
set_option linter.all false
set_option maxRecDepth 100000
namespace Pu
open PySem PySem.Spec PyProof.Rows L2 PySem.W RZ

theorem sws_fold {ts vs : List Expr} {k k2 : Nat} {p p2 : Pos} {env : Env} (h : vs.all (foldedForSure 8) = true) : swappedStores [.Tuple ts k p] (.Tuple vs k2 p2) env = pure none := by
  unfold swappedStores
  simp only [h, if_true]
  split
  · rfl
  · split
    · rfl
    · split <;> rfl
/-- targets that are not all plain local names -/
def locNm (sc : Scope) : Expr → Bool
  | .Name id _ => sc.names.lookup id == some .local
  | _ => false
theorem sws_other {ts vs : List Expr} {k k2 : Nat} {p p2 : Pos} {env : Env} (h : ts.all (locNm env.scope) = false) : swappedStores [.Tuple ts k p] (.Tuple vs k2 p2) env = pure none := by
  have len : ∀ (l : Nat) (ts : List Expr), ts.all (locNm env.scope) = false → (ts.filterMap fun | .Name id pos => if env.kindOf id == some .local && pos.line == l then some id else none | _ => none).length < ts.length := fun l ts => by
    induction ts with
    | nil => intro h; cases h
    | cons t ts ih =>
      intro h
      rw [List.all_cons] at h
      have le : ∀ ts : List Expr, (ts.filterMap fun | .Name id pos => if env.kindOf id == some .local && pos.line == l then some id else none | _ => none).length ≤ ts.length := fun ts => List.length_filterMap_le _ _
      rw [List.filterMap_cons]
      split
      · rw [List.length_cons]; exact Nat.lt_succ_of_le (le ts)
      · rename_i b hb
        rw [List.length_cons, List.length_cons]
        refine Nat.succ_lt_succ (ih ?_)
        cases hl : locNm env.scope t with
        | false =>
          exfalso
          cases t <;> first | (cases hb; done) | skip
          rename_i id pos
          have hl : (env.kindOf id == some .local) = false := hl
          simp only [hl, Bool.false_and] at hb
          cases hb
        | true => rw [hl, Bool.true_and] at h; exact h
  unfold swappedStores
  dsimp only
  split
  · rfl
  · split
    · rfl
    · split
      · rfl
      · rename_i hc
        exfalso
        apply hc
        have := len ((ts.head?.map (·.pos.line)).getD 0) ts h
        rw [Bool.or_eq_true]
        left
        rw [bne_iff_ne]
        exact Nat.ne_of_lt this
def parB3 (sc : Scope) (x : Str) (px : Pos) (y : Str) (py : Pos) (z : Str) (pz : Pos) (u v w : Expr) : Bool :=
  sc.names.lookup x == some .local && sc.names.lookup y == some .local && sc.names.lookup z == some .local && py.line == px.line && pz.line == px.line && !(x == y) && !(x == z) && !(y == z) && notStar u && notStar v && notStar w && !([u, v, w].all (foldedForSure 8)) && !([u, v, w].all (constantsAlone 8))
theorem sw_par3 {x y z : Str} {px py pz pt : Pos} {u v w : Expr} {kt k2 : Nat} {p2 : Pos} {env : Env} (hk : env.scope.kind = .function) (h : parB3 env.scope x px y py z pz u v w = true) :
    swappedStores [.Tuple [.Name x px, .Name y py, .Name z pz] kt pt] (.Tuple [u, v, w] k2 p2) env = pure (some [x, y, z]) := by
  unfold parB3 at h
  simp only [Bool.and_eq_true, beq_iff_eq, Bool.not_eq_true'] at h
  obtain ⟨⟨⟨⟨⟨⟨⟨⟨⟨⟨⟨⟨h1, h2⟩, h3⟩, h4⟩, h5⟩, h6⟩, h7⟩, h8⟩, h9⟩, h10⟩, h11⟩, h12⟩, h13⟩ := h
  have hb : env.blockKind = .function := by unfold Env.blockKind; rw [hk]; rfl
  have k1 : env.kindOf x = some .local := h1
  have k2 : env.kindOf y = some .local := h2
  have k3 : env.kindOf z = some .local := h3
  unfold swappedStores
  simp only [List.length_cons, List.length_nil, hb, Expr.pos, List.head?_cons, Option.map_some, Option.getD_some, List.filterMap_cons, List.filterMap_nil, k1, k2, k3, h4, h5]
  have e : (some NameKind.local == some NameKind.local && px.line == px.line) = true := by simp
  have d : [x, y, z].eraseDups = [x, y, z] := by
    have h6' : (y == x) = false := by rw [BEq.comm]; exact h6
    have h7' : (z == x) = false := by rw [BEq.comm]; exact h7
    have h8' : (z == y) = false := by rw [BEq.comm]; exact h8
    simp [List.eraseDups_cons, h6', h7', h8']
  rw [if_neg (by decide), if_neg (fun hh => by
    rw [List.any_eq_true] at hh
    obtain ⟨a, ha, ha2⟩ := hh
    have hn : notStar a = true := by
      simp only [List.mem_cons, List.not_mem_nil, or_false] at ha
      rcases ha with rfl | rfl | rfl <;> assumption
    clear h12 h13
    cases a <;> first | (cases hn; done) | (cases ha2; done))]
  simp only [e, if_true]
  rw [d, if_neg (by simp), if_neg (by rw [h12]; exact Bool.false_ne_true), if_neg (by rw [h13]; exact Bool.false_ne_true)]

def isName : Expr → Bool
  | .Name _ _ => true
  | _ => false
def shAsg : List Stmt → Option (Expr × Expr)
  | [.Assign [t] v _] => some (t, v)
  | _ => none
def shPar : List Stmt → Option (Str × Pos × Str × Pos × Expr × Expr)
  | [.Assign [.Tuple [.Name x px, .Name y py] _ _] (.Tuple [u, v] _ _) _] => some (x, px, y, py, u, v)
  | _ => none
def shPar3 : List Stmt → Option (Str × Pos × Str × Pos × Str × Pos × Expr × Expr × Expr)
  | [.Assign [.Tuple [.Name x px, .Name y py, .Name z pz] _ _] (.Tuple [u, v, w] _ _) _] => some (x, px, y, py, z, pz, u, v, w)
  | _ => none
def shSub : List Stmt → Option (Str × Expr × Expr)
  | [.Assign [.Subscript (.Name y _) k _] v _] => if plainIx k && !isComp v then some (y, k, v) else none
  | _ => none
def shAug : List Stmt → Option (Str × Operator × Expr)
  | [.AugAssign (.Name x _) o v _] => some (x, o, v)
  | _ => none
def shMeth (m : Str) : List Stmt → Option (Str × Expr)
  | [.Expr (.Call (.Attribute (.Name y _) n apos) [a] [] cpos) _] => if n = m && notStar a && apos.endLine == cpos.line then some (y, a) else none
  | _ => none
def shExpr : List Stmt → Option Expr
  | [.Expr v _] => if isComp v then none else some v
  | _ => none
def shIfS : List Stmt → Option (Expr × List Stmt × List Stmt)
  | [.If c a b _] => some (c, a, b)
  | _ => none
def shFor : List Stmt → Option (Expr × Expr × List Stmt)
  | [.For t i b [] _] => some (t, i, b)
  | _ => none
def shWhile : List Stmt → Option (Expr × List Stmt)
  | [.While c b [] _] => some (c, b)
  | _ => none
def shRet : List Stmt → Option Expr
  | [.Return (some v) _] => some v
  | _ => none
def shRetN : List Stmt → Bool
  | [.Return none _] => true
  | _ => false
def shBrk : List Stmt → Bool
  | [.Break _] => true
  | _ => false
def shRaise : List Stmt → Option Str
  | [.Raise (some (.Call (.Name x _) [] [] _)) none _] => some x
  | _ => none
def okAsg (sc : Scope) (t v : Expr) : Bool := isName t || (!isComp v && (notTupE v || (match t, v with | .Tuple ts _ _, .Tuple vs _ _ => vs.all (foldedForSure 8) || !ts.all (locNm sc) | _, _ => false)))
section
variable (C : Ck) (fr : Bool) (b : Bk)
def okS : PS' → List Stmt → Bool
  | .skip, ss => ss.isEmpty
  | .seq p q, ss => (match ss with | s :: s2 :: r => okS p [s] && okS q (s2 :: r) | _ => false)
  | .set tg e, ss => (match shAsg ss with | some (t, v) => okTg C b tg (.inl t) && okX C e b (.inl v) && okAsg b.sc t v | none => false)
  | .own i e, ss => (match shAsg ss with | some (t, v) => (match shName t with | some y => tgOk C b i y && okX C e b (.inl v) && isFr e | none => false) | none => false)
  | .par2 f1 i a f2 j c, ss => (match shPar ss with | some (x, px, y, py, u, v) => tgOk C b i x && tgOk C b j y && decide (i ≠ j) && okX C a b (.inl u) && okX C c b (.inl v) && (!f1 || isFr a) && (!f2 || isFr c) && parB b.sc x px y py u v | none => false)
  | .par3 i a j c k d, ss => (match shPar3 ss with | some (x, px, y, py, z, pz, u, v, w) => tgOk C b i x && tgOk C b j y && tgOk C b k z && decide (i ≠ j) && decide (i ≠ k) && decide (j ≠ k) && okX C a b (.inl u) && okX C c b (.inl v) && okX C d b (.inl w) && parB3 b.sc x px y py z pz u v w | none => false)
  | .setIx i k e, ss => (match shSub ss with | some (y, x, v) => nmOk C b i y && okX C k b (.inl x) && okX C e b (.inl v) | none => false)
  | .aug i o e, ss => (match shAug ss with | some (x, p, v) => decide (p = bop o) && (decide (o = .add) || decide (o = .sub)) && tgOk C b i x && nmOk C b i x && okX C e b (.inl v) | none => false)
  | .app i e, ss => (match shMeth "append" ss with | some (y, v) => nmOk C b i y && okX C e b (.inl v) | none => false)
  | .ext i e, ss => (match shMeth "extend" ss with | some (y, v) => nmOk C b i y && okX C e b (.inl v) | none => false)
  | .expr e, ss => (match shExpr ss with | some v => okX C e b (.inl v) | none => false)
  | .ite c p q, ss => (match shIfS ss with | some (x, s, t) => okX C c b (.inl x) && okS p s && okS q t | none => false)
  | .for_ tg it p, ss => (match shFor ss with | some (t, i, s) => okTg C b tg (.inl t) && okX C it b (.inl i) && notSet i && tgI it t && okS p s | none => false)
  | .while_ c p, ss => (match shWhile ss with | some (x, s) => okX C c b (.inl x) && okS p s | none => false)
  | .ret e, ss => (match shRet ss with | some v => okX C e b (.inl v) && (!fr || isFr e) | none => false)
  | .retN, ss => shRetN ss
  | .brk, ss => shBrk ss
  | .raise c, ss => (match shRaise ss with | some x => isCls C b x c | none => false)
  | _, _ => false
end
end Pu
end

section
set_option Elab.async false
set_option linter.all false
set_option maxRecDepth 100000
namespace Pu
open PySem PySem.Spec PyProof.Rows L2 PySem.W RZ

def SndS (C : Ck) (p : PS') : Prop := ∀ (G : Th) (W : WX) (cl : Nat → Option (List PV) → List PV → Outc) (fuel : Nat) (io : Option Addr) (fr : Bool) (H₀ : Hp) (b : Bk) (X : Cx), CX2 G W cl io C b X →
  (∀ s, okS C fr b p [s] = true → PS X s (tS G W cl fuel io fr H₀ p)) ∧ ∀ ss, okS C fr b p ss = true → PSs X ss (tS G W cl fuel io fr H₀ p)
section
variable {G : Th} {W : WX} {cl : Nat → Option (List PV) → List PV → Outc} {fuel : Nat} {io : Option Addr} {fr : Bool} {H₀ : Hp} {C : Ck} {b : Bk} {X : Cx} {P F F' : Addr → Prop} {ρ : Sl} {σ : L2.St} {H H' : Hp} {p q : PS'} {e : PX}
/-- one statement -/
theorem SndS.one (h : ∀ (G : Th) (W : WX) (cl : Nat → Option (List PV) → List PV → Outc) (fuel : Nat) (io : Option Addr) (fr : Bool) (H₀ : Hp) (b : Bk) (X : Cx), CX2 G W cl io C b X → ∀ ss, okS C fr b p ss = true → ∃ s, ss = [s] ∧ PS X s (tS G W cl fuel io fr H₀ p)) : SndS C p := fun G W cl fuel io fr H₀ b X cx =>
  ⟨fun s hs => by
    obtain ⟨s', e, h⟩ := h G W cl fuel io fr H₀ b X cx [s] hs
    cases e; exact h, fun ss hs => by
    obtain ⟨s', rfl, h⟩ := h G W cl fuel io fr H₀ b X cx ss hs
    exact pss_one h⟩
theorem snd_skip : SndS C .skip := fun G W cl fuel io fr H₀ b X cx => ⟨fun s hs => (nomatch (show false = true from hs)), fun ss hs => by
  cases ss with
  | cons _ _ => exact nomatch (show false = true from hs)
  | nil => exact pss_imp pss_nil fun D σ H ⟨P, F, ρ, hn, rel, fin⟩ => fin F σ H (Ext.refl rel.pre) rel⟩
theorem nope (hn : ∀ b, H b = none → H₀ b = none) (e : Ext G P F H F' H') : ∀ b, H' b = none → H₀ b = none := fun b h => hn b (e.nope h)
theorem snd_seq (hp : SndS C p) (hq : SndS C q) : SndS C (.seq p q) := fun G W cl fuel io fr H₀ b X cx => ⟨fun s hs => (nomatch (show false = true from hs)), fun ss hs => by
  match ss with
  | [] => exact nomatch (show false = true from hs)
  | [_] => exact nomatch (show false = true from hs)
  | s :: s2 :: r =>
    obtain ⟨h1, h2⟩ := and2 (show (okS C fr b p [s] && okS C fr b q (s2 :: r)) = true from hs)
    refine pss_imp (pss_cons ((hp G W cl fuel io fr H₀ b X cx).1 s h1) ((hq G W cl fuel io fr H₀ b X cx).2 _ h2)) fun D σ H ⟨P, F, ρ, hn, rel, fin⟩ => ?_
    exact ⟨P, F, ρ, hn, rel, FnS.seq fin fun F' σ' H' ρ' e r f => ⟨P, F', ρ', nope hn e, r, f⟩⟩⟩
/-! ### names get values -/
theorem tE_tF : ∀ σ H Q, tE G W cl io e σ H Q → tF G W cl io e σ H Q := fun σ H Q ⟨P, F, ρ, rel, fin⟩ => by
  refine ⟨P, F, ρ, rel, ?_⟩
  cases hd : den cl e ρ with
  | ok v ρ' =>
    rw [hd] at fin
    intro F' H' x e1 r1 a1
    obtain ⟨F2, e2, r2, rp⟩ := a1.freeze e1 rel.pre r1
    exact fin F2 H' x e2 r2 rp
  | exc c vs ρ' => rw [hd] at fin; exact fin
  | stuck => rw [hd] at fin; exact fin
theorem kind_of (cx : CX2 G W cl io C b X) : X.env.scope.kind = .function := by rw [cx.sc]; exact cx.kd
/-- a list made by running is of one form -/
theorem lc_only {elt : Expr} {gs : List Comprehension} {scope : Scope} {pos : Pos} (h : okX C e b (.inl (.ListComp elt gs scope pos)) = true) : ∃ vs tg it c p, e = .comp vs tg it c p := by
  cases e <;> first | exact ⟨_, _, _, _, _, rfl⟩ | exact nomatch (show false = true from h)
theorem no_sets {elt : Expr} {gs : List Comprehension} {scope : Scope} {pos : Pos} (h : okX C e b (.inl (.SetComp elt gs scope pos)) = true) : False := by
  cases e <;> exact nomatch (show false = true from h)
theorem no_dicts {k v : Expr} {gs : List Comprehension} {scope : Scope} {pos : Pos} (h : okX C e b (.inl (.DictComp k v gs scope pos)) = true) : False := by
  cases e <;> exact nomatch (show false = true from h)
theorem ps_name {i : Nat} {y : Str} {py pos : Pos} {v : Expr} (cx : CX2 G W cl io C b X) (h1 : tgOk C b i y = true) (h2 : okX C e b (.inl v) = true) :
    PS X (.Assign [.Name y py] v pos) (tAsg (tE G W cl io e) (gName i)) ∧ (isFr e = true → PS X (.Assign [.Name y py] v pos) (tAsg (tF G W cl io e) (gName i))) := by
  obtain ⟨hn, hl, hf, hg, h0⟩ := cx.toCX1.tg (pos := py) h1
  have nd : X.N.Nodup := by rw [cx.N]; exact cx.nd
  have g := (sound e G W cl io b X cx.toCX1).1 v h2
  by_cases hc : isComp v = false
  · exact ⟨ps_set nd hn hl g.ee (sw_nc hc) hf, fun z => ps_set nd hn hl (g.ff z) (sw_nc hc) hf⟩
  · cases v <;> first | exact absurd rfl hc | exact (no_sets h2).elim | exact (no_dicts h2).elim | skip
    rename_i elt gs scope pos'
    cases hs : swB X.env.scope y py pos' scope with
    | false =>
      have sw : ∀ l, swapsWith (.ListComp elt gs scope pos') (some (.Name y py)) l X.env = pure false := fun l => by rw [sw_lc (kind_of cx), hs]
      exact ⟨ps_set nd hn hl g.ee (sw _) hf, fun z => ps_set nd hn hl (g.ff z) (sw _) hf⟩
    | true =>
      have sw : ∀ l, swapsWith (.ListComp elt gs scope pos') (some (.Name y py)) l X.env = pure true := fun l => by rw [sw_lc (kind_of cx), hs]
      have hloc : X.env.scope.names.lookup y = some .local := by
        unfold swB at hs
        simp only [Bool.and_eq_true, beq_iff_eq] at hs
        exact hs.1.1
      obtain ⟨vs, tg, it, c, p, rfl⟩ := lc_only h2
      replace h2 : (match shComp (.ListComp elt gs scope pos') with
        | some (elt, t, i, ifs, scope) => okX C it b (.inl i) && notSet i && tgI it t && blkC C.N b.sc scope (ownL C vs) && okTg C (blkOf b scope) tg (.inl t) &&
            okIfs (fun e => okX C c (blkOf b scope) (.inl e)) c ifs && okX C p (blkOf b scope) (.inl elt) && (tgs tg).all (fun i => vs.contains i) && (!b.io || !vs.contains 0)
        | none => false) = true := h2
      split at h2
      · rename_i elt' t i' ifs scope' hx
        obtain ⟨pos2, e2⟩ := shComp_eq hx
        cases e2
        obtain ⟨h, h9⟩ := and2 h2
        obtain ⟨h, h8⟩ := and2 h
        obtain ⟨h, h7⟩ := and2 h
        obtain ⟨h, h6⟩ := and2 h
        obtain ⟨h, h5⟩ := and2 h
        obtain ⟨h, h4⟩ := and2 h
        obtain ⟨h, h3⟩ := and2 h
        obtain ⟨h1', h2'⟩ := and2 h
        have gi := (sound it G W cl io b X cx.toCX1).1 i' h1'
        have bo : BlkOk X.N X.env.scope scope (ownL C vs) := blkOk_by (by rw [cx.N, cx.sc]; exact h4)
        have main : PS X (.Assign [.Name y py] (.ListComp elt [⟨t, i', ifs, 0⟩] scope pos') pos) (tAsg (tLc (tI G W cl io it) (gT G io tg) (tC G W0 cl io c) (tE G W0 cl io p) ((ownL C vs).map (·.2))) (gName i)) :=
          ps_setLc cx.calm nd hn hloc (sw _) (gi.ii t h3) bo
            (fun s H Cc cs fp => (tg_both (cx_blk cx.toCX1 scope s H Cc cs fp) tg).1 t h5)
            (fun s H Cc cs fp => okIfs_pts (cx_blk cx.toCX1 scope s H Cc cs fp) (sound c) h6)
            (fun s H Cc cs fp => ((sound p G W0 cl io (blkOf b scope) _ (cx_blk cx.toCX1 scope s H Cc cs fp)).1 elt h7).ee)
            (folded_ns h2')
        rw [own_snd] at main
        have imp := comp_tF (G := G) (W := W) (cl := cl) (io := io) (vs := vs) (tg := tg) (it := it) (c := c) (e := p) (fun i hi => by
            rw [List.all_eq_true] at h8
            simpa using h8 i hi) (fun a ha z => by
            cases hb : b.io with
            | false => rw [cx.io hb] at ha; cases ha
            | true => rw [hb] at h9; simp at h9; exact h9 z)
        exact ⟨ps_imp main fun D σ H h => imp σ H _ (tE_tF σ H _ h), fun _ => ps_imp main fun D σ H h => imp σ H _ h⟩
      · cases h2
theorem snd_set {tg : Tg} : SndS C (.set tg e) := SndS.one fun G W cl fuel io fr H₀ b X cx ss hs => by
  replace hs : (match shAsg ss with | some (t, v) => okTg C b tg (.inl t) && okX C e b (.inl v) && okAsg b.sc t v | none => false) = true := hs
  split at hs
  · rename_i t v hx
    have hss : ∃ pos, ss = [.Assign [t] v pos] := by
      unfold shAsg at hx
      split at hx
      · cases hx; exact ⟨_, rfl⟩
      · cases hx
    obtain ⟨pos, rfl⟩ := hss
    obtain ⟨h, h3⟩ := and2 hs
    obtain ⟨h1, h2⟩ := and2 h
    refine ⟨_, rfl, ?_⟩
    have fin : ∀ (g : TG), (∀ v σ H Q, gT G io tg v σ H Q → g v σ H Q) → ∀ D σ H, tS G W cl fuel io fr H₀ (.set tg e) D σ H → tAsg (tE G W cl io e) g D σ H := fun g hg D σ H ⟨P, F, ρ, hn, rel, fin⟩ => by
      refine ⟨P, F, ρ, rel, Fn.mono (FnS.bind (A := AV G) fin) fun x H1 ⟨F1, u, ρ1, e1, rel1, a1, fin1⟩ => hg _ _ _ _ ?_⟩
      cases ha : assignT tg u ρ1 with
      | none => rw [ha] at fin1; exact fin1.elim
      | some ρ2 =>
        rw [ha] at fin1
        exact ⟨P, F1, ρ1, u, ρ2, rel1, a1, ha, fun σ' rel2 _ _ => fin1 F1 σ' H1 (Ext.refl rel1.pre) rel2⟩
    by_cases hname : isName t = true
    · cases t <;> first | (cases hname; done) | skip
      rename_i y py
      cases tg <;> first | (cases h1; done) | exact (nomatch (show false = true from h1)) | skip
      rename_i i
      have h1 : tgOk C b i y = true := h1
      obtain ⟨_, _, _, _, h0⟩ := cx.toCX1.tg (pos := py) h1
      refine ps_imp (ps_name cx h1 h2).1 (fin _ fun v σ H Q ⟨P, F, ρ, p, ρ', rel, rp, ha, k⟩ => ?_)
      simp only [assignT] at ha
      obtain ⟨_, rfl⟩ := rp_some ha
      exact k _ (rel.set h0 rp) (List.length_set ..) fun j hj => List.getElem?_set_ne fun z => hj (by rw [z]; simp [tgs])
    · unfold okAsg at h3
      rw [Bool.not_eq_true] at hname
      rw [hname, Bool.false_or] at h3
      obtain ⟨h4, h5⟩ := and2 h3
      have h4 : isComp v = false := by simpa using h4
      have sws : swappedStores [t] v X.env = pure none := by
        rcases Bool.or_eq_true_iff.mp h5 with h5 | h5
        · exact sws_none (.inr h5)
        · split at h5
          · rcases Bool.or_eq_true_iff.mp h5 with h5 | h5
            · exact sws_fold h5
            · exact sws_other (by rw [cx.sc]; simpa using h5)
          · cases h5
      have g := (sound e G W cl io b X cx.toCX1).1 v h2
      have tgt := (tg_both cx.toCX1 tg).1 t h1
      have ns : notStar t = true := by cases t <;> first | rfl | (cases tg <;> exact nomatch (show false = true from h1))
      exact ps_imp (ps_asg g.ee tgt (sw_nc h4) sws (asgE ns)) (fin _ fun _ _ _ _ h => h)
  · cases hs

/-- a new thing of one's own -/
theorem Rel.newOwn (r : Rel G P F io ρ σ H) {i : Nat} {a : Addr} {p : PV} {s : Slot} (h0 : ∀ a, io = some a → i ≠ 0) (np : ¬ P a) (nf : ¬ F a) (no : ¬ OwnA ρ σ a) (ob : Obj_ G F H p a) (hs : ownOf p = some s) :
    Rel G P F io (ρ.set i s) (σ.set i (some (.ref a))) H := by
  have so : s.isOwn = true ∧ RelS G P F H s (some (some (.ref a))) := by
    rcases ob with ⟨us, ws, rfl, hb, hz, ra⟩ | ⟨ks, us, ms, ws, rfl, hb, hz, hz2, hk, ra⟩ | ⟨ks, us, ms, ws, rfl, hb, hz, hz2, hk, ra⟩
    · cases hs; exact ⟨rfl, a, ws, rfl, nf, np, hb, hz, ra⟩
    · cases hs; exact ⟨rfl, a, ms, ws, rfl, nf, np, hb, hz, hz2, hk, ra⟩
    · cases hs; exact ⟨rfl, a, ms, ws, rfl, nf, np, hb, hz, hz2, hk, ra⟩
  have ow : ∀ {j c}, ownB (ρ.set i s) j → (σ.set i (some (.ref a)))[j]? = some (some (.ref c)) → (j = i ∧ c = a) ∨ (i ≠ j ∧ ownB ρ j ∧ σ[j]? = some (some (.ref c))) := fun {j c} ⟨t, ht, hto⟩ q => by
    by_cases z : i = j
    · subst z
      rw [List.getElem?_set, if_pos rfl] at q
      split at q
      · cases q; exact .inl ⟨rfl, rfl⟩
      · cases q
    · rw [List.getElem?_set_ne z] at ht q
      exact .inr ⟨z, ⟨t, ht, hto⟩, q⟩
  refine ⟨r.pre, by rw [List.length_set, List.length_set]; exact r.len, fun j t ht => ?_, fun j k c hj hk ej ek => ?_, fun c h => ?_⟩
  · by_cases z : i = j
    · subst z
      rw [List.getElem?_set, if_pos rfl] at ht
      split at ht
      · cases ht
        rename_i hl
        rw [List.getElem?_set, if_pos rfl, if_pos (by rw [← r.len]; exact hl)]
        exact so.2
      · cases ht
    · rw [List.getElem?_set_ne z] at ht
      rw [List.getElem?_set_ne z]
      exact r.at_ j t ht
  · rcases ow hj ej with ⟨z1, z2⟩ | ⟨z1, o1, q1⟩ <;> rcases ow hk ek with ⟨w1, w2⟩ | ⟨w1, o2, q2⟩
    · rw [z1, w1]
    · subst z2; exact absurd ⟨k, o2, q2⟩ no
    · subst w2; exact absurd ⟨j, o1, q1⟩ no
    · exact r.apart j k c o1 o2 q1 q2
  · rw [List.getElem?_set_ne (h0 c h)]; exact r.pin c h
theorem own_obj {p : PV} {s : Slot} (h : ownOf p = some s) : isObjV p = true := by
  cases p <;> first | rfl | cases h
theorem af_obj {p : PV} {x : V} {H₀ : Hp} (h : AF G σ H₀ ρ F H p x) (ho : isObjV p = true) : ∃ b, x = .ref b ∧ H₀ b = none ∧ ¬ F b ∧ ¬ OwnA ρ σ b ∧ Obj_ G F H p b := by
  rcases h with ⟨h, _⟩ | h
  · rw [ho] at h; cases h
  · exact h
theorem obj_at {p : PV} {b : Addr} (h : Obj_ G F H p b) : ∃ o, H b = some o ∧ stuff o = true := by
  rcases h with ⟨us, ws, rfl, hb, _⟩ | ⟨ks, us, ms, ws, rfl, hb, _⟩ | ⟨ks, us, ms, ws, rfl, hb, _⟩ <;> exact ⟨_, hb, rfl⟩
theorem shAsg_eq {ss : List Stmt} {t v : Expr} (h : shAsg ss = some (t, v)) : ∃ pos, ss = [.Assign [t] v pos] := by
  unfold shAsg at h
  split at h
  · cases h; exact ⟨_, rfl⟩
  · cases h
theorem snd_own {i : Nat} : SndS C (.own i e) := SndS.one fun G W cl fuel io fr H₀ b X cx ss hs => by
  replace hs : (match shAsg ss with | some (t, v) => (match shName t with | some y => tgOk C b i y && okX C e b (.inl v) && isFr e | none => false) | none => false) = true := hs
  split at hs
  · rename_i t v hx
    obtain ⟨pos, rfl⟩ := shAsg_eq hx
    split at hs
    · rename_i y hy
      obtain ⟨py, rfl⟩ := shName_eq hy
      obtain ⟨h, h3⟩ := and2 hs
      obtain ⟨h1, h2⟩ := and2 h
      obtain ⟨_, _, _, _, h0⟩ := cx.toCX1.tg (pos := py) h1
      refine ⟨_, rfl, ps_imp ((ps_name cx h1 h2).2 h3) fun D σ H ⟨P, F, ρ, hn, rel, fin⟩ => ⟨P, F, ρ, rel, Fn.mono (FnS.bind (A := AF G σ H) fin) fun x H1 ⟨F1, u, ρ1, e1, rel1, a1, fin1⟩ => ?_⟩⟩
      unfold putS at fin1
      split at fin1
      · rename_i s hs
        split at fin1
        · obtain ⟨c, rfl, hc, nf, no, ob⟩ := af_obj a1 (own_obj hs)
          exact fin1 F1 _ H1 (Ext.refl rel1.pre) (rel1.newOwn h0 (rel.pre.fresh hc) nf no ob hs)
        · exact fin1.elim
      · exact fin1.elim
    · cases hs
  · cases hs
theorem shPar_eq {ss : List Stmt} {x y : Str} {px py : Pos} {u v : Expr} (h : shPar ss = some (x, px, y, py, u, v)) : ∃ k p k2 p2 pos, ss = [.Assign [.Tuple [.Name x px, .Name y py] k p] (.Tuple [u, v] k2 p2) pos] := by
  unfold shPar at h
  split at h
  · cases h; exact ⟨_, _, _, _, _, rfl⟩
  · cases h
/-- what may be new, where it may -/
theorem ge_af {v : Expr} {f : Bool} (g : GE G W cl io X e v) (hf : (!f || isFr e) = true) : PE X v (if f then tF G W cl io e else tE G W cl io e) := by
  cases f with
  | true => rw [if_pos rfl]; exact g.ff (by simpa using hf)
  | false => rw [if_neg (by simp)]; exact g.ee
def AFE (G : Th) (f : Bool) (σ : L2.St) (H₀ : Hp) : Sl → (Addr → Prop) → Hp → PV → V → Prop := fun ρ F H p x => if f then AF G σ H₀ ρ F H p x else Rp G F H p x
theorem tFE {f : Bool} {σ : L2.St} {H : Hp} {Q : VK} {P F : Addr → Prop} {ρ : Sl} (rel : Rel G P F io ρ σ H) (h : Fn G P io W (AFE G f σ H) F σ H (den cl e ρ) Q) : (if f then tF G W cl io e else tE G W cl io e) σ H Q := by
  cases f with
  | true => rw [if_pos rfl]; exact ⟨P, F, ρ, rel, h⟩
  | false => rw [if_neg (by simp)]; exact ⟨P, F, ρ, rel, h⟩

theorem FnS.bindP {α β : Type} {P1 : Addr → Prop} {A : Sl → (Addr → Prop) → Hp → α → β → Prop} {r : R α} {f : α → Sl → R Fl} {D : Ends} (sub : ∀ a, P a → P1 a) (h : FnS G P io W fr H₀ F H (r.bind f) D) :
    Fn G P1 io W A F σ H r (fun b H1 => ∃ F1 a ρ1, Ext G P1 F H F1 H1 ∧ Rel G P1 F1 io ρ1 σ H1 ∧ A ρ1 F1 H1 a b ∧ FnS G P io W fr H₀ F1 H1 (f a ρ1) D) := by
  cases r with
  | ok a ρ' => exact fun F' H' b e rel q => ⟨F', a, ρ', e, rel, q, FnS.from_ (e.sub sub) h⟩
  | exc c vs ρ' => exact fun F' H' d e rel q => h F' σ H' d (e.sub sub) (rel.less sub) q
  | stuck => exact h
/-- a value that is to be stored -/
def Ready (G : Th) (P F : Addr → Prop) (ρ : Sl) (σ : L2.St) (H : Hp) (s : Slot) (x : V) : Prop :=
  (∃ p, s = .val p ∧ Rp G F H p x) ∨ ∃ p a, ownOf p = some s ∧ x = .ref a ∧ ¬ P a ∧ ¬ F a ∧ ¬ OwnA ρ σ a ∧ Obj_ G F H p a
theorem own_is {p : PV} {s : Slot} (h : ownOf p = some s) : s.isOwn = true := by
  cases p <;> first | (cases h; rfl) | cases h
theorem Ready.put {s : Slot} {x : V} {i : Nat} (r : Rel G P F io ρ σ H) (h0 : ∀ a, io = some a → i ≠ 0) (rd : Ready G P F ρ σ H s x) : Rel G P F io (ρ.set i s) (σ.set i (some x)) H := by
  rcases rd with ⟨p, rfl, rp⟩ | ⟨p, a, hs, rfl, np, nf, no, ob⟩
  · exact r.set h0 rp
  · exact r.newOwn h0 np nf no ob hs
theorem Ready.hold {s : Slot} {x : V} (r : Rel G P F io ρ σ H) (rd : Ready G P F ρ σ H s x) : ∃ P1 : Addr → Prop, (∀ a, P a → P1 a) ∧ Rel G P1 F io ρ σ H ∧ ∀ F2 H2 ρ2, Ext G P1 F H F2 H2 → Rel G P1 F2 io ρ2 σ H2 → Ready G P F2 ρ2 σ H2 s x ∧ (s.isOwn = true → ∃ a o, x = .ref a ∧ H a = some o) := by
  rcases rd with ⟨p, rfl, rp⟩ | ⟨p, a, hs, rfl, np, nf, no, ob⟩
  · exact ⟨P, fun _ h => h, r, fun F2 H2 ρ2 e r2 => ⟨.inl ⟨p, rfl, e.rp rp⟩, fun z => nomatch z⟩⟩
  · obtain ⟨o, ho, hst⟩ := obj_at ob
    refine ⟨fun c => P c ∨ c = a, fun c h => .inl h, r.protect fun c h => ?_, fun F2 H2 ρ2 e r2 => ⟨.inr ⟨p, a, hs, rfl, np, r2.pre.pf a (.inr rfl), fun oa => (r2.ownA oa).2.1 (.inr rfl), ?_⟩, fun _ => ⟨a, o, rfl, ho⟩⟩⟩
    · rcases h with h | rfl
      · exact ⟨r.pre.pd c h, r.pre.pf c h, fun z => (r.ownA z).2.1 h⟩
      · exact ⟨⟨o, ho, stuff_nt hst⟩, nf, no⟩
    · have keep : ∀ u, H a = some u → stuff u = true → H2 a = some u := fun u hu hs => e.keep a u (.inr (.inr rfl)) hu (stuff_nt hs)
      rcases ob with ⟨us, ws, e1, hb, hz, ra⟩ | ⟨ks, us, ms, ws, e1, hb, hz, hz2, hk, ra⟩ | ⟨ks, us, ms, ws, e1, hb, hz, hz2, hk, ra⟩
      · exact .inl ⟨us, ws, e1, keep _ hb rfl, hz, e.rpA ra⟩
      · exact .inr (.inl ⟨ks, us, ms, ws, e1, keep _ hb rfl, hz, hz2, hk, e.rpA ra⟩)
      · exact .inr (.inr ⟨ks, us, ms, ws, e1, keep _ hb rfl, hz, hz2, hk, e.rpA ra⟩)
theorem Ready.less {P1 : Addr → Prop} {s : Slot} {x : V} (h : ∀ a, P a → P1 a) (rd : Ready G P1 F ρ σ H s x) : Ready G P F ρ σ H s x := by
  rcases rd with ⟨p, rfl, rp⟩ | ⟨p, a, hs, rfl, np, nf, no, ob⟩
  · exact .inl ⟨p, rfl, rp⟩
  · exact .inr ⟨p, a, hs, rfl, fun z => np (h a z), nf, no, ob⟩
theorem Ready.other {s s' : Slot} {x y : V} {i : Nat} (rd : Ready G P F ρ σ H s y) (h : s'.isOwn = true → s.isOwn = true → x ≠ y) : Ready G P F (ρ.set i s') (σ.set i (some x)) H s y := by
  rcases rd with ⟨p, rfl, rp⟩ | ⟨p, a, hs, rfl, np, nf, no, ob⟩
  · exact .inl ⟨p, rfl, rp⟩
  · refine .inr ⟨p, a, hs, rfl, np, nf, fun ⟨j, ⟨t, ht, hto⟩, q⟩ => ?_, ob⟩
    by_cases z : i = j
    · subst z
      rw [List.getElem?_set, if_pos rfl] at ht q
      split at ht
      · cases ht
        split at q
        · cases q; exact h hto (own_is hs) rfl
        · cases q
      · cases ht
    · rw [List.getElem?_set_ne z] at ht q
      exact no ⟨j, ⟨t, ht, hto⟩, q⟩
theorem ready_of {f : Bool} {u : PV} {x : V} {s : Slot} {H₀ : Hp} (hP : ∀ a, H₀ a = none → ¬ P a) (hs : sl2 f u = some s) (h : AFE G f σ H₀ ρ F H u x) : Ready G P F ρ σ H s x ∧ (s.isOwn = true → ∃ a, x = .ref a ∧ H₀ a = none) := by
  unfold sl2 at hs
  unfold AFE at h
  cases f with
  | true =>
    rw [if_pos rfl] at hs h
    obtain ⟨c, rfl, hc, nf, no, ob⟩ := af_obj h (own_obj hs)
    exact ⟨.inr ⟨u, c, hs, rfl, hP c hc, nf, no, ob⟩, fun _ => ⟨c, rfl, hc⟩⟩
  | false =>
    rw [if_neg (by simp)] at hs h
    cases hs
    exact ⟨.inl ⟨u, rfl, h⟩, fun z => nomatch z⟩
theorem put_bind {i : Nat} {o : Option Slot} {f : Sl → R Fl} {D : Ends} (h : FnS G P io W fr H₀ F H ((putS i o ρ).bind fun _ ρ => f ρ) D) : ∃ t, o = some t ∧ FnS G P io W fr H₀ F H (f (ρ.set i t)) D := by
  unfold putS at h
  cases o with
  | none => exact h.elim
  | some t =>
    refine ⟨t, rfl, ?_⟩
    by_cases l : i < ρ.length
    · simp only [l, if_true] at h; exact h
    · simp only [l, if_false] at h; exact h.elim
theorem put_last {i : Nat} {o : Option Slot} {D : Ends} (h : FnS G P io W fr H₀ F H (putS i o ρ) D) : ∃ t, o = some t ∧ FnS G P io W fr H₀ F H (.ok .nx (ρ.set i t)) D := by
  unfold putS at h
  cases o with
  | none => exact h.elim
  | some t =>
    refine ⟨t, rfl, ?_⟩
    by_cases l : i < ρ.length
    · simp only [l, if_true] at h; exact h
    · simp only [l, if_false] at h; exact h.elim
theorem parB_loc {sc : Scope} {x y : Str} {px py : Pos} {u v : Expr} (h : parB sc x px y py u v = true) : sc.names.lookup x = some .local ∧ sc.names.lookup y = some .local ∧ notStar u = true ∧ notStar v = true := by
  unfold parB at h
  simp only [Bool.and_eq_true, beq_iff_eq] at h
  exact ⟨h.1.1.1.1.1.1.1, h.1.1.1.1.1.1.2, h.1.1.1.2, h.1.1.2⟩
theorem snd_par2 {f1 f2 : Bool} {i j : Nat} {a c : PX} : SndS C (.par2 f1 i a f2 j c) := SndS.one fun G W cl fuel io fr H₀ b X cx ss hs => by
  replace hs : (match shPar ss with | some (x, px, y, py, u, v) => tgOk C b i x && tgOk C b j y && decide (i ≠ j) && okX C a b (.inl u) && okX C c b (.inl v) && (!f1 || isFr a) && (!f2 || isFr c) && parB b.sc x px y py u v | none => false) = true := hs
  split at hs
  · rename_i x px y py u v hx
    obtain ⟨k, p, k2, p2, pos, rfl⟩ := shPar_eq hx
    obtain ⟨h, h8⟩ := and2 hs
    obtain ⟨h, h7⟩ := and2 h
    obtain ⟨h, h6⟩ := and2 h
    obtain ⟨h, h5⟩ := and2 h
    obtain ⟨h, h4⟩ := and2 h
    obtain ⟨h, h3⟩ := and2 h
    obtain ⟨h1, h2⟩ := and2 h
    have hij := of_decide_eq_true h3
    obtain ⟨hn1, _, _, _, h01⟩ := cx.toCX1.tg (pos := px) h1
    obtain ⟨hn2, _, _, _, h02⟩ := cx.toCX1.tg (pos := py) h2
    obtain ⟨l1, l2, s1, s2⟩ := parB_loc h8
    have g1 := ge_af ((sound a G W cl io b X cx.toCX1).1 u h4) h6
    have g2 := ge_af ((sound c G W cl io b X cx.toCX1).1 v h5) h7
    have sw := sw_par (pt := p) (kt := k) (k2 := k2) (p2 := p2) (kind_of cx) (by rw [cx.sc]; exact h8)
    refine ⟨_, rfl, ps_imp (ps_par cx.calm (by rw [cx.N]; exact cx.nd) hn1 hn2 hij (by rw [cx.sc]; exact l1) (by rw [cx.sc]; exact l2) (pa2 g1 g2 s1 s2) sw) fun D σ H ⟨P, F, ρ, hn, rel, fin⟩ => ?_⟩
    refine tFE rel (Fn.mono (FnS.bind (A := AFE G f1 σ H) fin) fun x H1 ⟨F1, u, ρ1, e1, rel1, a1, fin1⟩ => ?_)
    cases hs1 : sl2 f1 u with
    | none =>
      refine tFE rel1 (Fn.mono (FnS.bind (A := AFE G f2 σ H1) fin1) fun y H2 ⟨F2, v, ρ2, e2, rel2, a2, fin2⟩ => ?_)
      rw [hs1] at fin2
      exact fin2.elim
    | some t1 =>
      obtain ⟨rd1, fr1⟩ := ready_of (P := P) (fun a ha => rel.pre.fresh ha) hs1 a1
      obtain ⟨P1, sub, relP, hold⟩ := rd1.hold rel1
      refine tFE relP (Fn.mono (FnS.bindP (A := AFE G f2 σ H1) sub fin1) fun y H2 ⟨F2, v, ρ2, e2, rel2, a2, fin2⟩ => ⟨x, y, rfl, ?_⟩)
      obtain ⟨rd1', ex1⟩ := hold F2 H2 ρ2 e2 rel2
      have relL : Rel G P F2 io ρ2 σ H2 := rel2.less sub
      rw [hs1] at fin2
      obtain ⟨t, ht, fin3⟩ := put_bind fin2
      cases ht
      obtain ⟨t2, hs2, fin4⟩ := put_last fin3
      obtain ⟨rd2, fr2⟩ := ready_of (P := P) (fun a ha => rel1.pre.fresh ha) hs2 a2
      have relA := rd1'.put relL h01
      have rdB := rd2.other (i := i) (s' := t1) (x := x) fun o1 o2 e => by
        obtain ⟨a, o, ea, ho⟩ := ex1 o1
        obtain ⟨a', ea', hn'⟩ := fr2 o2
        rw [ea] at e; rw [← e] at ea'; cases ea'; rw [ho] at hn'; cases hn'
      exact fin4 F2 _ H2 (Ext.refl relL.pre) (rdB.put relA h02)
  · cases hs
end
end Pu
end

section
set_option Elab.async false
set_option linter.all false
set_option maxRecDepth 100000
namespace Pu
open PySem PySem.Spec PyProof.Rows L2 PySem.W RZ

section
variable {G : Th} {W : WX} {cl : Nat → Option (List PV) → List PV → Outc} {fuel : Nat} {io : Option Addr} {fr : Bool} {H₀ : Hp} {C : Ck} {b : Bk} {X : Cx} {P F F' : Addr → Prop} {ρ : Sl} {σ : L2.St} {H H' : Hp} {p q : PS'} {e : PX}
theorem shPar3_eq {ss : List Stmt} {x y z : Str} {px py pz : Pos} {u v w : Expr} (h : shPar3 ss = some (x, px, y, py, z, pz, u, v, w)) : ∃ k p k2 p2 pos, ss = [.Assign [.Tuple [.Name x px, .Name y py, .Name z pz] k p] (.Tuple [u, v, w] k2 p2) pos] := by
  unfold shPar3 at h
  split at h
  · cases h; exact ⟨_, _, _, _, _, rfl⟩
  · cases h
theorem parB3_loc {sc : Scope} {x y z : Str} {px py pz : Pos} {u v w : Expr} (h : parB3 sc x px y py z pz u v w = true) : sc.names.lookup x = some .local ∧ sc.names.lookup y = some .local ∧ sc.names.lookup z = some .local ∧ notStar u = true ∧ notStar v = true ∧ notStar w = true := by
  unfold parB3 at h
  simp only [Bool.and_eq_true, beq_iff_eq] at h
  obtain ⟨⟨⟨⟨⟨⟨⟨⟨⟨⟨⟨⟨h1, h2⟩, h3⟩, h4⟩, h5⟩, h6⟩, h7⟩, h8⟩, h9⟩, h10⟩, h11⟩, h12⟩, h13⟩ := h
  exact ⟨h1, h2, h3, h9, h10, h11⟩
theorem snd_par3 {i j k : Nat} {a c d : PX} : SndS C (.par3 i a j c k d) := SndS.one fun G W cl fuel io fr H₀ b X cx ss hs => by
  replace hs : (match shPar3 ss with | some (x, px, y, py, z, pz, u, v, w) => tgOk C b i x && tgOk C b j y && tgOk C b k z && decide (i ≠ j) && decide (i ≠ k) && decide (j ≠ k) && okX C a b (.inl u) && okX C c b (.inl v) && okX C d b (.inl w) && parB3 b.sc x px y py z pz u v w | none => false) = true := hs
  split at hs
  · rename_i x px y py z pz u v w hx
    obtain ⟨kk, p, k2, p2, pos, rfl⟩ := shPar3_eq hx
    obtain ⟨h, h10⟩ := and2 hs
    obtain ⟨h, h9⟩ := and2 h
    obtain ⟨h, h8⟩ := and2 h
    obtain ⟨h, h7⟩ := and2 h
    obtain ⟨h, h6⟩ := and2 h
    obtain ⟨h, h5⟩ := and2 h
    obtain ⟨h, h4⟩ := and2 h
    obtain ⟨h, h3⟩ := and2 h
    obtain ⟨h1, h2⟩ := and2 h
    obtain ⟨hn1, _, _, _, h01⟩ := cx.toCX1.tg (pos := px) h1
    obtain ⟨hn2, _, _, _, h02⟩ := cx.toCX1.tg (pos := py) h2
    obtain ⟨hn3, _, _, _, h03⟩ := cx.toCX1.tg (pos := pz) h3
    obtain ⟨l1, l2, l3, s1, s2, s3⟩ := parB3_loc h10
    have g1 := ((sound a G W cl io b X cx.toCX1).1 u h7).ee
    have g2 := ((sound c G W cl io b X cx.toCX1).1 v h8).ee
    have g3 := ((sound d G W cl io b X cx.toCX1).1 w h9).ee
    have sw := sw_par3 (pt := p) (kt := kk) (k2 := k2) (p2 := p2) (kind_of cx) (by rw [cx.sc]; exact h10)
    refine ⟨_, rfl, ps_imp (ps_par3 cx.calm (by rw [cx.N]; exact cx.nd) hn1 hn2 hn3 (of_decide_eq_true h4) (of_decide_eq_true h5) (of_decide_eq_true h6) (by rw [cx.sc]; exact l1) (by rw [cx.sc]; exact l2) (by rw [cx.sc]; exact l3) (pa_cons g1 (pa2 g2 g3 s2 s3) (starEach_ns s1)) sw) fun D σ H ⟨P, F, ρ, hn, rel, fin⟩ => ?_⟩
    refine ⟨P, F, ρ, rel, Fn.mono (FnS.bind (A := AV G) fin) fun x H1 ⟨F1, u, ρ1, e1, rel1, a1, fin1⟩ => ⟨P, F1, ρ1, rel1, Fn.mono (FnS.bind (A := AV G) fin1) fun y H2 ⟨F2, v, ρ2, e2, rel2, a2, fin2⟩ => ⟨P, F2, ρ2, rel2, Fn.mono (FnS.bind (A := AV G) fin2) fun z H3 ⟨F3, w, ρ3, e3, rel3, a3, fin3⟩ => ⟨x, y, z, rfl, ?_⟩⟩⟩⟩
    obtain ⟨t, ht, fin4⟩ := put_bind fin3
    cases ht
    obtain ⟨t, ht, fin5⟩ := put_bind fin4
    cases ht
    obtain ⟨t, ht, fin6⟩ := put_last fin5
    cases ht
    exact fin6 F3 _ H3 (Ext.refl rel3.pre) (((rel3.set h01 (e3.rp (e2.rp a1))).set h02 (e3.rp a2)).set h03 a3)
  · cases hs
theorem sole {t v : Expr} {l : Nat} {env : Env} : swapsWithSole [t] v l env = swapsWith v (some t) l env := rfl
/-! ### o[i] = v -/
theorem shSub_eq {ss : List Stmt} {y : Str} {k v : Expr} (h : shSub ss = some (y, k, v)) : ∃ py p pos, ss = [.Assign [.Subscript (.Name y py) k p] v pos] ∧ plainIx k = true ∧ isComp v = false := by
  unfold shSub at h
  split at h
  · obtain ⟨c, z⟩ := rp_some h
    cases z
    obtain ⟨c1, c2⟩ := and2 c
    exact ⟨_, _, _, rfl, c1, by simpa using c2⟩
  · cases h
theorem asg_sub {o i : Expr} {pos : Pos} {env : Env} (h : plainIx i = true) (v : Value) : assign (.Subscript o i pos) env v = (do
      let ov ← holding [v] (eval o env)
      let iv ← holding [v, ov] (eval i env)
      standAt pos
      holding [v, ov, iv] (setItem ov iv v)
      release [v, ov, iv] []) := by
  cases i <;> first | (cases h; done) | rfl
theorem PSet.or {t u : TSet} (h : PSet X t) (h' : PSet X u) : PSet X fun o i v H Q => t o i v H Q ∨ u o i v H Q := by
  intro pins s σ H o i v ov iv uv Q I ro ri rv q
  rcases q with q | q
  · exact h pins s σ H o i v ov iv uv Q I ro ri rv q
  · exact h' pins s σ H o i v ov iv uv Q I ro ri rv q
/-- a change of a list of one's own -/
theorem Rel.pokeL (r : Rel G P F io ρ σ H) {i : Nat} {xs ys : List PV} {ws : List V} {a : Addr} (hi : ρ[i]? = some (.own xs)) (ha : σ[i]? = some (some (.ref a))) (hz : ws.length ≤ sizeLine) (ra : RpA G F H ys ws) :
    Ext G P F H F (upd H a (.lst ws)) ∧ Rel G P F io (ρ.set i (.own ys)) σ (upd H a (.lst ws)) := by
  obtain ⟨a', us, ea, nf, np, hH, z, rxs⟩ := r.at_ i _ hi
  rw [ha] at ea; cases ea
  have pr : Pre G (fun b => (P b ∨ OwnA ρ σ b) ∧ b ≠ a) F H := ⟨fun b q => r.pre'.pd b q.1, fun b q => r.pre'.pf b q.1, r.pre.tabs, r.pre.fd⟩
  have e : Ext G (fun b => (P b ∨ OwnA ρ σ b) ∧ b ≠ a) F H F (upd H a (.lst ws)) := Ext.poke pr (fun q => q.2 rfl) nf hH rfl
  exact ⟨e.sub fun b pb => ⟨.inl pb, fun z => np (z ▸ pb)⟩, r.own hi rfl ha e (by rw [ha]; exact ⟨a, ws, rfl, nf, np, upd_same, hz, e.rpA ra⟩) rfl⟩
theorem Rel.pokeD (r : Rel G P F io ρ σ H) {i : Nat} {t : Bool} {ks : List DK} {vs : List PV} {a : Addr} {k : DK} {p q : PV} {v y : V} (hi : ρ[i]? = some (.ownD t ks vs)) (ha : σ[i]? = some (some (.ref a))) (hk : keyOf t q = some k) (rq : Rp G F H q y) (rv : Rp G F H p v) (hz : ks.length < big) :
    ∃ H', DPut H a y v H' ∧ Ext G P F H F H' ∧ Rel G P F io (ρ.set i (.ownD t (dputK ks k) (dputV ks vs k p))) σ H' := by
  have own := (r.at_ i _ hi)
  cases t with
  | false =>
    obtain ⟨a', ms, us, ea, nf, np, hH, l, z, hks, ra⟩ := own
    rw [ha] at ea; cases ea
    rcases key_of hk rq with ⟨_, m, hm, rfl⟩ | ⟨z, _⟩
    · obtain ⟨ms', vs', e1, l', z', hks', ra'⟩ := dict_put dkK_inj hm rv hks l ra
      have hlen : us.length < sizeLine := by
        have e := congrArg List.length hks
        simp only [List.length_map] at e
        have : sizeLine = big := big_eq.symm
        omega
      have pr : Pre G (fun b => (P b ∨ OwnA ρ σ b) ∧ b ≠ a) F H := ⟨fun b q => r.pre'.pd b q.1, fun b q => r.pre'.pf b q.1, r.pre.tabs, r.pre.fd⟩
      have e : Ext G (fun b => (P b ∨ OwnA ρ σ b) ∧ b ≠ a) F H F (upd H a (.dK (ms'.zip vs'))) := Ext.poke pr (fun q => q.2 rfl) nf hH rfl
      refine ⟨_, DPut.k hH (by rw [List.length_zip, l, Nat.min_self]; exact hlen), ?_⟩
      rw [e1]
      exact ⟨e.sub fun b pb => ⟨.inl pb, fun z => np (z ▸ pb)⟩, r.own hi rfl ha e (by rw [ha]; exact ⟨a, ms', vs', rfl, nf, np, upd_same, l', by omega, hks', e.rpA ra'⟩) rfl⟩
    · cases z
  | true =>
    obtain ⟨a', ms, us, ea, nf, np, hH, l, z, hks, ra⟩ := own
    rw [ha] at ea; cases ea
    rcases key_of hk rq with ⟨z, _⟩ | ⟨_, m, c, hm, rfl, fc, hc⟩
    · cases z
    · obtain ⟨ms', vs', e1, l', z', hks', ra'⟩ := dict_put dkT_inj hm rv hks l ra
      have hlen : us.length < sizeLine := by
        have e := congrArg List.length hks
        simp only [List.length_map] at e
        have : sizeLine = big := big_eq.symm
        omega
      have pr : Pre G (fun b => (P b ∨ OwnA ρ σ b) ∧ b ≠ a) F H := ⟨fun b q => r.pre'.pd b q.1, fun b q => r.pre'.pf b q.1, r.pre.tabs, r.pre.fd⟩
      have e : Ext G (fun b => (P b ∨ OwnA ρ σ b) ∧ b ≠ a) F H F (upd H a (.dT (ms'.zip vs'))) := Ext.poke pr (fun q => q.2 rfl) nf hH rfl
      refine ⟨upd H a (.dT (putK (ms.zip us) m v)), .inr ⟨_, m, c, hH, rfl, hc, by rw [List.length_zip, l, Nat.min_self]; exact hlen, rfl⟩, ?_⟩
      rw [e1]
      exact ⟨e.sub fun b pb => ⟨.inl pb, fun z => np (z ▸ pb)⟩, r.own hi rfl ha e (by rw [ha]; exact ⟨a, ms', vs', rfl, nf, np, upd_same, l', by omega, hks', e.rpA ra'⟩) rfl⟩
theorem snd_setIx {i : Nat} {k : PX} : SndS C (.setIx i k e) := SndS.one fun G W cl fuel io fr H₀ b X cx ss hs => by
  replace hs : (match shSub ss with | some (y, x, v) => nmOk C b i y && okX C k b (.inl x) && okX C e b (.inl v) | none => false) = true := hs
  split at hs
  · rename_i y x v hx
    obtain ⟨py, p, pos, rfl, pl, nc⟩ := shSub_eq hx
    obtain ⟨h, h3⟩ := and2 hs
    obtain ⟨h1, h2⟩ := and2 h
    have g1 := ((sound e G W cl io b X cx.toCX1).1 v h3).ee
    have g2 := ((sound k G W cl io b X cx.toCX1).1 x h2).ee
    refine ⟨_, rfl, ps_imp (ps_asg g1 (pg_sub (cx.toCX1.nm h1).2.2 g2 (PSet.or set_list (L2.set_dict (un1 cx.un))) (asg_sub pl)) (by rw [sole]; exact sw_nc nc) (sws_none (.inl rfl))) fun D σ H ⟨P, F, ρ, hn, rel, fin⟩ => ?_⟩
    refine ⟨P, F, ρ, rel, Fn.mono (FnS.bind (A := AV G) fin) fun z H1 ⟨F1, u, ρ1, e1, rel1, a1, fin1⟩ => ?_⟩
    split at fin1
    case isFalse => exact fin1.elim
    rename_i hpk
    obtain ⟨p0, hp0⟩ := Option.isSome_iff_exists.mp hpk
    obtain ⟨x, hx, _⟩ := rel1.peek hp0
    refine ⟨x, hx, P, F1, ρ1, rel1, Fn.mono (FnS.bind (A := AV G) fin1) fun w H2 ⟨F2, kv, ρ2, e2, rel2, a2, fin2⟩ => ?_⟩
    have a1' := e2.rp a1
    unfold setIxP at fin2
    split at fin2
    · rename_i xs n hown
      split at fin2
      · rename_i j hj
        unfold Rp at a2; subst a2
        obtain ⟨a, us, ea, nf, np, ha, hz, rxs⟩ := rel2.at_ i _ hown
        rw [hx] at ea; cases ea
        have ra := rxs.set a1' j
        obtain ⟨ex, rel3⟩ := rel2.pokeL hown hx (by rw [List.length_set]; exact hz) ra
        refine .inl ⟨a, us, n, j, rfl, rfl, ha, ?_, fin2 F2 σ _ ex rel3⟩
        rw [← rxs.length]; exact hj
      · exact fin2.elim
    · rename_i t ks vs hown
      split at fin2
      · rename_i k' hk'
        split at fin2
        · rename_i hz
          obtain ⟨a, _, ea, _⟩ := (rel2.at_ i _ hown).owned rfl
          rw [hx] at ea; cases ea
          obtain ⟨H3, dp, ex, rel3⟩ := rel2.pokeD hown hx hk' a2 a1' hz
          exact .inr ⟨a, H3, rfl, dp, fin2 F2 σ _ ex rel3⟩
        · exact fin2.elim
      · exact fin2.elim
    · exact fin2.elim
  · cases hs
end
end Pu
end

section
set_option Elab.async false
set_option linter.all false
set_option maxRecDepth 100000
namespace Pu
open PySem PySem.Spec PyProof.Rows L2 PySem.W RZ

section
variable {G : Th} {W : WX} {cl : Nat → Option (List PV) → List PV → Outc} {fuel : Nat} {io : Option Addr} {fr : Bool} {H₀ : Hp} {C : Ck} {b : Bk} {X : Cx} {P F F' : Addr → Prop} {ρ : Sl} {σ : L2.St} {H H' : Hp} {p q : PS'} {e : PX}
theorem shAug_eq {ss : List Stmt} {x : Str} {o : Operator} {v : Expr} (h : shAug ss = some (x, o, v)) : ∃ px pos, ss = [.AugAssign (.Name x px) o v pos] := by
  unfold shAug at h
  split at h
  · cases h; exact ⟨_, _, rfl⟩
  · cases h
theorem snd_aug {i : Nat} {o : BOp} : SndS C (.aug i o e) := SndS.one fun G W cl fuel io fr H₀ b X cx ss hs => by
  replace hs : (match shAug ss with | some (x, p, v) => decide (p = bop o) && (decide (o = .add) || decide (o = .sub)) && tgOk C b i x && nmOk C b i x && okX C e b (.inl v) | none => false) = true := hs
  split at hs
  · rename_i x p v hx
    obtain ⟨px, pos, rfl⟩ := shAug_eq hx
    obtain ⟨h, h5⟩ := and2 hs
    obtain ⟨h, h4⟩ := and2 h
    obtain ⟨h, h3⟩ := and2 h
    obtain ⟨h1, h2⟩ := and2 h
    have h1 := of_decide_eq_true h1
    subst h1
    obtain ⟨hn, hl, hf, _, h0⟩ := cx.toCX1.tg (pos := px) h3
    have g1 := ((sound e G W cl io b X cx.toCX1).1 v h5).ee
    have nd : X.N.Nodup := by rw [cx.N]; exact cx.nd
    have run : ∀ (f : Int → Int → Int) (op : Operator), PIp X op (ipI f) → (∀ a c (ρ : Sl), augP i o (.int a) (.int c) ρ = if i < ρ.length then .ok .nx (ρ.set i (.val (.int (f a c)))) else .stuck) →
        (∀ u v (ρ : Sl), (∃ a c, u = .int a ∧ v = .int c) ∨ augP i o u v ρ = .stuck) → PS X (.AugAssign (.Name x px) op v pos) (tS G W cl fuel io fr H₀ (.aug i o e)) := fun f op hop hint hcase => by
      refine ps_imp (ps_aug nd hn hl g1 hop hf) fun D σ H ⟨P, F, ρ, hnp, rel, fin⟩ => ?_
      have fin : FnS G P io W fr H₀ F H (match peek i ρ with | some x => (den cl e ρ).bind fun y ρ => augP i o x y ρ | none => .stuck) D := fin
      cases hp : peek i ρ with
      | none => rw [hp] at fin; exact fin.elim
      | some u =>
        rw [hp] at fin
        obtain ⟨z, hz, ro⟩ := rel.peek hp
        refine ⟨z, hz, P, F, ρ, rel, Fn.mono (FnS.bind (A := AV G) fin) fun y H1 ⟨F1, w, ρ1, e1, rel1, a1, fin1⟩ => ?_⟩
        rcases hcase u w ρ1 with ⟨a, c, rfl, rfl⟩ | hst
        · rw [hint] at fin1
          split at fin1
          · have ez : z = .int a := by
              rcases ro with ro | ⟨_, _, ob⟩
              · unfold Rp at ro; exact ro
              · have := ob.obj; cases this
            unfold Rp at a1
            exact ⟨a, c, ez, a1, fin1 F1 _ H1 (Ext.refl rel1.pre) (rel1.set h0 rp_int)⟩
          · exact fin1.elim
        · rw [hst] at fin1; exact fin1.elim
    refine ⟨_, rfl, ?_⟩
    cases o <;> first | (exact absurd h2 (by decide)) | skip
    · refine run (fun a c => a + c) .Add ip_add (fun a c ρ => rfl) fun u v ρ => ?_
      cases u <;> first | exact .inr rfl | (cases v <;> first | exact .inr rfl | exact .inl ⟨_, _, rfl, rfl⟩)
    · refine run (fun a c => a - c) .Sub ip_sub (fun a c ρ => rfl) fun u v ρ => ?_
      cases u <;> first | exact .inr rfl | (cases v <;> first | exact .inr rfl | exact .inl ⟨_, _, rfl, rfl⟩)
  · cases hs
theorem shMeth_eq {m : Str} {ss : List Stmt} {y : Str} {a : Expr} (h : shMeth m ss = some (y, a)) : ∃ py apos cpos pos, ss = [.Expr (.Call (.Attribute (.Name y py) m apos) [a] [] cpos) pos] ∧ notStar a = true ∧ (apos.endLine == cpos.line) = true := by
  unfold shMeth at h
  split at h
  · obtain ⟨c, z⟩ := rp_some h
    cases z
    simp only [Bool.and_eq_true, decide_eq_true_eq] at c
    obtain ⟨⟨rfl, c1⟩, c2⟩ := c
    exact ⟨_, _, _, _, rfl, c1, c2⟩
  · cases h
theorem few1 {a : Expr} {cpos : Pos} {env : Env} (h : notStar a = true) : ((backTo cpos (starEach [a] env)).all (fun x => !x.1) && (backToKw cpos (keywordEach [] env)).all (fun x => x.1.isSome)
      && decide ([a].length + ([] : List Keyword).length + (if ([] : List Keyword).isEmpty then 0 else 1) < 30)) = true := by
  rw [starEach_ns h]; rfl
theorem snd_app {i : Nat} : SndS C (.app i e) := SndS.one fun G W cl fuel io fr H₀ b X cx ss hs => by
  replace hs : (match shMeth "append" ss with | some (y, v) => nmOk C b i y && okX C e b (.inl v) | none => false) = true := hs
  split at hs
  · rename_i y v hx
    obtain ⟨py, apos, cpos, pos, rfl, ns, hline⟩ := shMeth_eq hx
    obtain ⟨h1, h2⟩ := and2 hs
    have g1 := ((sound e G W cl io b X cx.toCX1).1 v h2).ee
    refine ⟨_, rfl, ps_imp (ps_expr (pe_bm PySem.F.plainAttrs_list PySem.F.slot_list_append PySem.F.type_list_append mt_append (cx.toCX1.nm h1).2.2 (pa1 g1 ns) rfl (few1 ns) hline (starEach_ns ns) rfl) (sw_nc rfl)) fun D σ H ⟨P, F, ρ, hn, rel, fin⟩ => ?_⟩
    have fin : FnS G P io W fr H₀ F H (if isOwnL i ρ then (den cl e ρ).bind (appP i) else .stuck) D := fin
    split at fin
    case isFalse => exact fin.elim
    rename_i hown
    unfold isOwnL at hown
    split at hown
    case h_2 => cases hown
    rename_i xs0 hx0
    obtain ⟨a, us, ea, nf, np, ha, hz, rxs⟩ := rel.at_ i _ hx0
    refine ⟨_, ea, .inl ⟨rfl, us, SqL.of ha⟩, P, F, ρ, rel, Fn.mono (FnS.bind (A := AV G) fin) fun z H1 ⟨F1, u, ρ1, e1, rel1, a1, fin1⟩ => ?_⟩
    unfold appP at fin1
    split at fin1
    · rename_i xs hx1
      split at fin1
      · rename_i hlt
        obtain ⟨a', us', ea', nf', np', ha', hz', rxs'⟩ := rel1.at_ i _ hx1
        rw [ea] at ea'; cases ea'
        have l := rxs'.length
        have hb : sizeLine = big := big_eq.symm
        obtain ⟨ex, rel2⟩ := rel1.pokeL (ws := us' ++ [z]) hx1 ea (by rw [List.length_append, List.length_singleton]; omega) (rxs'.append (RpA.cons a1 RpA.nil))
        exact ⟨a, us', z, rfl, rfl, ha', by omega, fin1 F1 σ _ ex rel2⟩
      · exact fin1.elim
    · exact fin1.elim
  · cases hs
theorem snd_ext {i : Nat} : SndS C (.ext i e) := SndS.one fun G W cl fuel io fr H₀ b X cx ss hs => by
  replace hs : (match shMeth "extend" ss with | some (y, v) => nmOk C b i y && okX C e b (.inl v) | none => false) = true := hs
  split at hs
  · rename_i y v hx
    obtain ⟨py, apos, cpos, pos, rfl, ns, hline⟩ := shMeth_eq hx
    obtain ⟨h1, h2⟩ := and2 hs
    have g1 := ((sound e G W cl io b X cx.toCX1).1 v h2).ee
    refine ⟨_, rfl, ps_imp (ps_expr (pe_bm PySem.F.plainAttrs_list PySem.F.slot_list_extend PySem.F.type_list_extend mt_extend (cx.toCX1.nm h1).2.2 (pa1 g1 ns) rfl (few1 ns) hline (starEach_ns ns) rfl) (sw_nc rfl)) fun D σ H ⟨P, F, ρ, hn, rel, fin⟩ => ?_⟩
    have fin : FnS G P io W fr H₀ F H (if isOwnL i ρ then (den cl e ρ).bind (extP i) else .stuck) D := fin
    split at fin
    case isFalse => exact fin.elim
    rename_i hown
    unfold isOwnL at hown
    split at hown
    case h_2 => cases hown
    rename_i xs0 hx0
    obtain ⟨a, us, ea, nf, np, ha, hz, rxs⟩ := rel.at_ i _ hx0
    refine ⟨_, ea, .inl ⟨rfl, us, SqL.of ha⟩, P, F, ρ, rel, Fn.mono (FnS.bind (A := AV G) fin) fun z H1 ⟨F1, u, ρ1, e1, rel1, a1, fin1⟩ => ?_⟩
    unfold extP at fin1
    split at fin1
    · rename_i xs ys hx1
      split at fin1
      · rename_i hlt
        obtain ⟨a', us', ea', nf', np', ha', hz', rxs'⟩ := rel1.at_ i _ hx1
        rw [ea] at ea'; cases ea'
        obtain ⟨c, ws, rfl, hc, _, hz2, rys⟩ := rp_lst (K := X.K) a1
        have l := rxs'.length
        have l2 := rys.length
        have hb : sizeLine = big := big_eq.symm
        obtain ⟨ex, rel2⟩ := rel1.pokeL (ws := us' ++ ws) hx1 ea (by rw [List.length_append]; omega) (rxs'.append rys)
        exact ⟨a, c, us', ws, rfl, rfl, ha', hc, by omega, fin1 F1 σ _ ex rel2⟩
      · exact fin1.elim
    · exact fin1.elim
  · cases hs
theorem snd_expr : SndS C (.expr e) := SndS.one fun G W cl fuel io fr H₀ b X cx ss hs => by
  replace hs : (match shExpr ss with | some v => okX C e b (.inl v) | none => false) = true := hs
  split at hs
  · rename_i v hx
    obtain ⟨pos, rfl, nc⟩ : ∃ pos, ss = [.Expr v pos] ∧ isComp v = false := by
      unfold shExpr at hx
      split at hx
      · split at hx
        · cases hx
        · rename_i h; cases hx; exact ⟨_, rfl, by simpa using h⟩
      · cases hx
    have g1 := ((sound e G W cl io b X cx.toCX1).1 v hs).ee
    exact ⟨_, rfl, ps_imp (ps_expr g1 (sw_nc nc)) fun D σ H ⟨P, F, ρ, hn, rel, fin⟩ => ⟨P, F, ρ, rel, Fn.mono (FnS.bind (A := AV G) fin) fun z H1 ⟨F1, u, ρ1, e1, rel1, a1, fin1⟩ => fin1 F1 σ H1 (Ext.refl rel1.pre) rel1⟩⟩
  · cases hs
theorem snd_ite {c : PX} (hp : SndS C p) (hq : SndS C q) : SndS C (.ite c p q) := SndS.one fun G W cl fuel io fr H₀ b X cx ss hs => by
  replace hs : (match shIfS ss with | some (x, s, t) => okX C c b (.inl x) && okS C fr b p s && okS C fr b q t | none => false) = true := hs
  split at hs
  · rename_i x s t hx
    obtain ⟨pos, rfl⟩ : ∃ pos, ss = [.If x s t pos] := by
      unfold shIfS at hx
      split at hx
      · cases hx; exact ⟨_, rfl⟩
      · cases hx
    obtain ⟨h, h3⟩ := and2 hs
    obtain ⟨h1, h2⟩ := and2 h
    have g1 := ((sound c G W cl io b X cx.toCX1).1 x h1).tt
    have s1 := (hp G W cl fuel io fr H₀ b X cx).2 s h2
    have s2 := (hq G W cl fuel io fr H₀ b X cx).2 t h3
    refine ⟨_, rfl, ps_imp (ps_if g1 s1 s2) fun D σ H ⟨P, F, ρ, hn, rel, fin⟩ => ⟨P, F, ρ, rel, Fn.mono (FnS.bind (A := AE) fin) fun z H1 ⟨F1, u, ρ1, e1, rel1, a1, fin1⟩ => ?_⟩⟩
    have a1 : u = z := a1
    subst a1
    cases u with
    | true => exact ⟨P, F1, ρ1, nope hn e1, rel1, fin1⟩
    | false => exact ⟨P, F1, ρ1, nope hn e1, rel1, fin1⟩
  · cases hs
/-! ### loops -/
theorem snd_for {tg : Tg} {it : PX} (hp : SndS C p) : SndS C (.for_ tg it p) := SndS.one fun G W cl fuel io fr H₀ b X cx ss hs => by
  replace hs : (match shFor ss with | some (t, i, s) => okTg C b tg (.inl t) && okX C it b (.inl i) && notSet i && tgI it t && okS C fr b p s | none => false) = true := hs
  split at hs
  · rename_i t i s hx
    obtain ⟨pos, rfl⟩ : ∃ pos, ss = [.For t i s [] pos] := by
      unfold shFor at hx
      split at hx
      · cases hx; exact ⟨_, rfl⟩
      · cases hx
    obtain ⟨h, h5⟩ := and2 hs
    obtain ⟨h, h4⟩ := and2 h
    obtain ⟨h, h3⟩ := and2 h
    obtain ⟨h1, h2⟩ := and2 h
    have g1 := ((sound it G W cl io b X cx.toCX1).1 i h2).ii t h4
    have g2 := (tg_both cx.toCX1 tg).1 t h1
    have s1 := (hp G W cl fuel io fr H₀ b X cx).2 s h5
    refine ⟨_, rfl, ps_imp (ps_for cx.po cx.calm g1 g2 s1 (folded_ns h3)) fun D σ H ⟨P, F, ρ, hn, rel, fin⟩ => ⟨P, F, ρ, rel, Fn.mono (FnS.bind (A := AI G P) fin) fun J H1 ⟨F1, xs, ρ1, e1, rel1, wk, fin1⟩ => ?_⟩⟩
    have w : Walk J xs.length (fun H2 => ∃ F2, Ext G P F1 H1 F2 H2) fun i H2 x H3 => J.yld i H2 x H3 := ⟨fun i H2 hi ⟨F2, q⟩ => (wk F2 H2 q).1 i hi, fun H2 ⟨F2, q⟩ => (wk F2 H2 q).2.1, fun i H2 x H3 hi _ y => y⟩
    refine for_it w (fun i σ2 H2 => ∃ F2 ρi, Ext G P F1 H1 F2 H2 ∧ Rel G P F2 io ρi σ2 H2 ∧ FnS G P io W fr H₀ F2 H2 (forLoop (assignT tg) (denS cl fuel p) (xs.drop i) ρi) D) ⟨F1, ρ1, Ext.refl rel1.pre, rel1, fin1⟩ (fun i σ2 H2 _ ⟨F2, _, q, _⟩ => ⟨F2, q⟩) ?_ ?_
    · rintro i x σ2 H2 H3 hi ⟨F2, ρi, e2, rel2, f2⟩ y
      obtain ⟨F3, pv, e3, k3, hpv, rp⟩ := (wk F2 H2 e2).2.2 i x H3 hi y
      have rel3 : Rel G P F3 io ρi σ2 H3 := rel2.step (e3.up k3 rel2.pre')
      rw [drop_cons hpv] at f2
      unfold forLoop at f2
      split at f2
      · exact f2.elim
      · rename_i ρa hta
        refine ⟨P, F3, ρi, pv, ρa, rel3, rp, hta, fun σ3 rela _ _ => ⟨P, F3, ρa, nope (nope (nope hn e1) e2) e3, rela, ?_⟩⟩
        have f3 := FnS.from_ e3 f2
        cases hb : denS cl fuel p ρa with
        | ok a ρb =>
          rw [hb] at f3
          cases a with
          | nx => exact fun F' σ' H' e4 r4 => ⟨F', ρb, (e2.trans e3).trans e4, r4, FnS.from_ e4 f3⟩
          | brk => exact f3
          | ret v => exact f3
        | exc c vs ρb => rw [hb] at f3; exact f3
        | stuck => rw [hb] at f3; exact f3
    · rintro σ2 H2 ⟨F2, ρi, e2, rel2, f2⟩
      rw [List.drop_length] at f2
      exact f2 F2 σ2 H2 (Ext.refl rel2.pre) rel2
  · cases hs
theorem snd_while {c : PX} (hp : SndS C p) : SndS C (.while_ c p) := SndS.one fun G W cl fuel io fr H₀ b X cx ss hs => by
  replace hs : (match shWhile ss with | some (x, s) => okX C c b (.inl x) && okS C fr b p s | none => false) = true := hs
  split at hs
  · rename_i x s hx
    obtain ⟨pos, rfl⟩ : ∃ pos, ss = [.While x s [] pos] := by
      unfold shWhile at hx
      split at hx
      · cases hx; exact ⟨_, rfl⟩
      · cases hx
    obtain ⟨h1, h2⟩ := and2 hs
    have g1 := ((sound c G W cl io b X cx.toCX1).1 x h1).tt
    have s1 := (hp G W cl fuel io fr H₀ b X cx).2 s h2
    refine ⟨_, rfl, ps_imp (ps_while cx.po g1 s1) fun D σ H ⟨P, F, ρ, hn, rel, fin⟩ => ?_⟩
    refine ⟨fun m σ2 H2 => ∃ F2 ρi, Ext G P F H F2 H2 ∧ Rel G P F2 io ρi σ2 H2 ∧ FnS G P io W fr H₀ F2 H2 (whileLoop (denT cl c) (denS cl fuel p) m ρi) D, ⟨fuel, F, ρ, Ext.refl rel.pre, rel, fin⟩, ?_⟩
    rintro m σ2 H2 ⟨F2, ρi, e2, rel2, f2⟩
    cases m with
    | zero => exact f2.elim
    | succ m =>
      refine ⟨P, F2, ρi, rel2, Fn.mono (FnS.bind (A := AE) f2) fun t H3 ⟨F3, u, ρ3, e3, rel3, a3, f3⟩ => ?_⟩
      have a3 : u = t := a3
      subst a3
      cases u with
      | true =>
        rw [if_pos rfl]
        rw [if_pos rfl] at f3
        refine ⟨fun σ' H' => ∃ F', ∃ ρ', Ext G P F H F' H' ∧ Rel G P F' io ρ' σ' H' ∧ FnS G P io W fr H₀ F' H' (whileLoop (denT cl c) (denS cl fuel p) m ρ') D, fun σ' H' q => ⟨m, Nat.lt_succ_self m, q⟩, P, F3, ρ3, nope (nope hn e2) e3, rel3, ?_⟩
        cases hb : denS cl fuel p ρ3 with
        | ok a ρb =>
          rw [hb] at f3
          cases a with
          | nx => exact fun F' σ' H' e4 r4 => ⟨F', ρb, (e2.trans e3).trans e4, r4, FnS.from_ e4 f3⟩
          | brk => exact f3
          | ret v => exact f3
        | exc c vs ρb => rw [hb] at f3; exact f3
        | stuck => rw [hb] at f3; exact f3
      | false =>
        rw [if_neg (by simp)]
        rw [if_neg (by simp)] at f3
        exact f3 F3 σ2 H3 (Ext.refl rel3.pre) rel3
  · cases hs
/-! ### the ends -/
theorem snd_ret : SndS C (.ret e) := SndS.one fun G W cl fuel io fr H₀ b X cx ss hs => by
  replace hs : (match shRet ss with | some v => okX C e b (.inl v) && (!fr || isFr e) | none => false) = true := hs
  split at hs
  · rename_i v hx
    obtain ⟨pos, rfl⟩ : ∃ pos, ss = [.Return (some v) pos] := by
      unfold shRet at hx
      split at hx
      · cases hx; exact ⟨_, rfl⟩
      · cases hx
    obtain ⟨h1, h2⟩ := and2 hs
    have g1 := ge_af ((sound e G W cl io b X cx.toCX1).1 v h1) h2
    refine ⟨_, rfl, ps_imp (ps_ret g1) fun D σ H ⟨P, F, ρ, hn, rel, fin⟩ => tFE rel (Fn.mono (FnS.bind (A := AFE G fr σ H) fin) fun z H1 ⟨F1, u, ρ1, e1, rel1, a1, fin1⟩ => fin1 F1 σ H1 z (Ext.refl rel1.pre) rel1 ?_)⟩
    unfold RetR
    unfold AFE at a1
    cases fr with
    | true =>
      rw [if_pos rfl] at a1 ⊢
      rcases a1 with a1 | ⟨b, e, hb, r⟩
      · exact .inl a1
      · exact .inr ⟨b, e, hn b hb, r⟩
    | false => exact a1
  · cases hs
theorem snd_retN : SndS C .retN := SndS.one fun G W cl fuel io fr H₀ b X cx ss hs => by
  have hs : shRetN ss = true := hs
  unfold shRetN at hs
  split at hs
  · refine ⟨_, rfl, ps_imp ps_retN fun D σ H ⟨P, F, ρ, hn, rel, fin⟩ => fin F σ H .non (Ext.refl rel.pre) rel ?_⟩
    unfold RetR
    cases fr with
    | true => exact .inl ⟨rfl, rp_non⟩
    | false => exact rp_non (G := G) (F := F) (H := H)
  · cases hs
theorem snd_brk : SndS C .brk := SndS.one fun G W cl fuel io fr H₀ b X cx ss hs => by
  have hs : shBrk ss = true := hs
  unfold shBrk at hs
  split at hs
  · exact ⟨_, rfl, ps_imp ps_break fun D σ H ⟨P, F, ρ, hn, rel, fin⟩ => fin F σ H (Ext.refl rel.pre) rel⟩
  · cases hs
theorem pmk_own0 {X : Cx} {C : Addr} {bmB : List Value} {B newId initId : String} {x : Str} {p pos : Pos} (F : ExcBaseFacts B newId initId bmB) (q : PySem.W.excIn X.K C bmB newId = true) (gC : X.mg x = some (.ref C)) (kC : PySem.W.keepIn X.K (.ref C) = true) (r : Raises X (.ref C)) (hg : Gl X x)
    (hdb : (x == ("__debug__" : Str)) = false) : PMk X (.Call (.Name x p) [] [] pos) (fun _ H Q => Q (.ref C) none H) := by
  intro pins s σ H Q I h
  refine wpAny_Call_Name_kw (ld_glob I hg gC ?_ hdb)
  refine PySem.W.callWith_K0 I.kIn kC ?_
  obtain ⟨bm, N, nm, qn, bs, hdct, sn, sub, ab, col, dd, k0, k1, k2, k3, k5, mN, hC, hN, hni, T⟩ := exc_obj I.kIn q
  refine wpAny_call_exc_subT F T hC hN hni (fun h' e hm => ?_) (Nat.zero_le _)
  exact mk_of I hm r h (I.hok.gone hm.new)
theorem snd_raise {c : Nat} : SndS C (.raise c) := SndS.one fun G W cl fuel io fr H₀ b X cx ss hs => by
  replace hs : (match shRaise ss with | some x => isCls C b x c | none => false) = true := hs
  split at hs
  · rename_i x hx
    obtain ⟨np, cpos, pos, rfl⟩ : ∃ np cpos pos, ss = [.Raise (some (.Call (.Name x np) [] [] cpos)) none pos] := by
      unfold shRaise at hx
      split at hx
      · cases hx; exact ⟨_, _, _, rfl⟩
      · cases hx
    obtain ⟨hg, ⟨hm, q1, q2, q3, q4⟩, hd⟩ := cx.toCX1.isCls hs
    refine ⟨_, rfl, ps_imp (ps_raise cx.calm cx.tk (pmk_own0 PySem.F.excBase_ValueError q1 hm q2 (raises_own q3 q4) hg hd)) fun D σ H ⟨P, F, ρ, hn, rel, fin⟩ => ?_⟩
    exact fin F σ H none (Ext.refl rel.pre) rel (.inl ⟨rfl, rfl⟩)
  · cases hs
theorem sndS_no {p : PS'} (h : ∀ fr b ss, okS C fr b p ss = false) : SndS C p := SndS.one fun G W cl fuel io fr H₀ b X cx ss hs => (nomatch (h fr b ss).symm.trans hs)
theorem soundS : ∀ p : PS', SndS C p
  | .skip => snd_skip
  | .seq a b => snd_seq (soundS a) (soundS b)
  | .set tg e => snd_set
  | .own i e => snd_own
  | .par2 _ _ _ _ _ _ => snd_par2
  | .par3 _ _ _ _ _ _ => snd_par3
  | .setIx _ _ _ => snd_setIx
  | .aug _ _ _ => snd_aug
  | .app _ _ => snd_app
  | .ext _ _ => snd_ext
  | .upd _ _ => sndS_no fun _ _ _ => rfl
  | .expr _ => snd_expr
  | .ite _ a b => snd_ite (soundS a) (soundS b)
  | .for_ _ _ b => snd_for (soundS b)
  | .while_ _ b => snd_while (soundS b)
  | .ret _ => snd_ret
  | .retN => snd_retN
  | .brk => snd_brk
  | .raise _ => snd_raise
  | .raise1 _ _ => sndS_no fun _ _ _ => rfl
end
end Pu
end

section
set_option Elab.async false
set_option linter.all false
set_option maxRecDepth 100000
namespace Pu
open PySem PySem.Spec PyProof.Rows L2 PySem.W RZ

/-- a def: its names, its parameters, what it means, where it stands -/
structure PDef where
  N : List Str
  ps : List Str
  fn : PFn
  d : He.DefD
def nodupB : List Str → Bool
  | [] => true
  | x :: xs => !xs.contains x && nodupB xs
theorem nodupB_ok : ∀ {xs : List Str}, nodupB xs = true → xs.Nodup
  | [], _ => List.nodup_nil
  | x :: xs, h => by
    obtain ⟨h1, h2⟩ := and2 h
    refine List.nodup_cons.mpr ⟨fun m => ?_, nodupB_ok h2⟩
    have : xs.contains x = true := by simpa using m
    rw [this] at h1; cases h1
def scopeB (N ps : List Str) (sc : Scope) : Bool :=
  (match sc.kind with | .function => true | _ => false) && !sc.isCoroutine && !sc.isGenerator && nodupB N && decide (N.take ps.length = ps) && ps.all (fun x => decide (sc.names.lookup x = some .local) || decide (sc.names.lookup x = some .cell)) &&
    sc.names.all fun y => (match y.2 with | .free => false | _ => true)
theorem scopeB_ok {N ps : List Str} {sc : Scope} (h : scopeB N ps sc = true) : FnScope N ps sc := by
  obtain ⟨h, h7⟩ := and2 h
  obtain ⟨h, h6⟩ := and2 h
  obtain ⟨h, h5⟩ := and2 h
  obtain ⟨h, h4⟩ := and2 h
  obtain ⟨h, h3⟩ := and2 h
  obtain ⟨h1, h2⟩ := and2 h
  refine ⟨?_, by simpa using h2, by simpa using h3, nodupB_ok h4, of_decide_eq_true h5, fun x hx => ?_, fun y hy e => ?_⟩
  · split at h1
    · assumption
    · cases h1
  · rw [List.all_eq_true] at h6
    have := h6 x hx
    simpa using this
  · rw [List.all_eq_true] at h7
    have := h7 y hy
    rw [e] at this
    cases this
def defOk (gl : List (Str × GK)) (tb : List PFn) (pd : PDef) : Bool :=
  scopeB pd.N pd.ps pd.d.scope && decide (pd.fn.ar = pd.ps.length) && decide (pd.fn.ns = pd.N.length) && (!pd.fn.io || (!pd.fn.fr && decide (1 ≤ pd.fn.ar))) && okS ⟨pd.N, gl, tb⟩ pd.fn.fr ⟨pd.d.scope, fun _ => true, pd.fn.io⟩ pd.fn.body pd.d.body
def BindsOk (pd : PDef) : Prop := ∀ (kV doc pm : Value) (an : Option Addr) (cdv ct : Value) (us : List Value), us.length = pd.ps.length → bindArgs (PySem.W.fnOf pd.d.name pd.d.qual pd.d.params pd.d.body pd.d.scope .none kV doc pm an cdv ct) ⟨us, []⟩ = pure (pd.ps.zip us)
/-- what a global name is, by the written part -/
def GOkK (K : PySem.W.Frag) (mg : Str → Option Value) (G : Th) (x : Str) : GK → Prop
  | .free => mg x = none
  | .fn f => mg x = some (.ref (G.fa f))
  | .cst c => ∃ u v, mg x = some u ∧ RelV v u ∧ ∀ F H, Rp G F H c v
  | .cls c => mg x = some (.ref (G.ca c)) ∧ PySem.W.excIn K (G.ca c) He.veBase "ValueError.__new__" = true ∧ PySem.W.keepIn K (.ref (G.ca c)) = true ∧ PySem.W.subIn K (.ref (G.ca c)) (.type "BaseException") = some true ∧ PySem.W.typeIn K (.ref (G.ca c)) = some (.type "type")
theorem run_fit {tb : List PFn} {fuel n f : Nat} {fn : PFn} {o : Option (List PV)} {ps : List PV} (hf : tb[f]? = some fn) (h : run tb fuel n f o ps ≠ .stuck) : ps.length + (if o.isSome then 1 else 0) = fn.ar ∧ o.isSome = fn.io := by
  cases n with
  | zero => exact absurd rfl h
  | succ n =>
    unfold run at h
    rw [hf] at h
    have h : (if fits fn o ps then finish fn.io (denS (run tb fuel n) fuel fn.body (Pu.start fn.ns o ps)) else .stuck) ≠ .stuck := h
    split at h
    · rename_i hfit
      unfold fits at hfit
      obtain ⟨h1, h2⟩ := and2 hfit
      have h1 := beq_iff_eq.mp h1
      have h2 := of_decide_eq_true h2
      rw [h1]
      exact ⟨h2, rfl⟩
    · exact absurd rfl h
theorem run_at {tb : List PFn} {fuel n f : Nat} {fn : PFn} {o : Option (List PV)} {ps : List PV} (hf : tb[f]? = some fn) : run tb fuel (n + 1) f o ps = if fits fn o ps then finish fn.io (denS (run tb fuel n) fuel fn.body (Pu.start fn.ns o ps)) else .stuck := by
  rw [run, hf]
section
variable {G : Th} {P F : Addr → Prop} {H : Hp} {W : WX}
theorem start_rel {N : List Str} {ps : List PV} {vs : List V} (pr : Pre G P F H) (ra : RpA G F H ps vs) (hl : vs.length ≤ N.length) : Rel G P F none (Pu.start N.length none ps) (L2.start N vs) H := by
  have hlen := ra.length
  refine ⟨pr, ?_, fun i s h => ?_, fun i j a hi => ?_, fun a h => nomatch h⟩
  · unfold Pu.start L2.start
    simp only [List.length_append, List.length_map, List.length_replicate]
    omega
  · unfold Pu.start at h
    by_cases hi : i < ps.length
    · rw [List.getElem?_append_left (by simpa using hi), List.getElem?_map] at h
      obtain ⟨p, hp⟩ : ∃ p, ps[i]? = some p := ⟨ps[i], List.getElem?_eq_getElem hi⟩
      rw [hp] at h
      cases h
      obtain ⟨v, hv, rv⟩ := ra.get hp
      refine ⟨v, ?_, rv⟩
      unfold L2.start
      rw [List.getElem?_append_left (by rw [List.length_map]; omega), List.getElem?_map, hv]
      rfl
    · rw [List.getElem?_append_right (by simpa using hi), List.getElem?_replicate] at h
      split at h
      · cases h; trivial
      · cases h
  · obtain ⟨s, hs, ho⟩ := hi
    unfold Pu.start at hs
    by_cases h : i < ps.length
    · rw [List.getElem?_append_left (by simpa using h), List.getElem?_map, List.getElem?_eq_getElem h] at hs
      cases hs; cases ho
    · rw [List.getElem?_append_right (by simpa using h), List.getElem?_replicate] at hs
      split at hs
      · cases hs; cases ho
      · cases hs
theorem start_relIO {N : List Str} {xs ps : List PV} {us vs : List V} {a : Addr} (pr : Pre G P F H) (nf : ¬ F a) (np : ¬ P a) (ha : H a = some (.lst us)) (hz : us.length ≤ sizeLine) (rxs : RpA G F H xs us) (ra : RpA G F H ps vs) (hl : (V.ref a :: vs).length ≤ N.length) :
    Rel G P F (some a) (Pu.start N.length (some xs) ps) (L2.start N (.ref a :: vs)) H := by
  have hlen := ra.length
  rw [List.length_cons] at hl
  have own0 : ∀ {i s}, (Pu.start N.length (some xs) ps)[i]? = some s → s.isOwn = true → i = 0 := fun {i s} hs ho => by
    unfold Pu.start at hs
    cases i with
    | zero => rfl
    | succ i =>
      rw [List.getElem?_cons_succ] at hs
      by_cases h : i < ps.length
      · rw [List.getElem?_append_left (by simpa using h), List.getElem?_map, List.getElem?_eq_getElem h] at hs
        cases hs; cases ho
      · rw [List.getElem?_append_right (by simpa using h), List.getElem?_replicate] at hs
        split at hs
        · cases hs; cases ho
        · cases hs
  refine ⟨pr, ?_, fun i s h => ?_, fun i j b hi hj _ _ => ?_, fun b h => ?_⟩
  · unfold Pu.start L2.start
    simp only [List.length_append, List.length_map, List.length_replicate, List.length_cons]
    omega
  · unfold Pu.start at h
    cases i with
    | zero =>
      cases h
      exact ⟨a, us, rfl, nf, np, ha, hz, rxs⟩
    | succ i =>
      rw [List.getElem?_cons_succ] at h
      by_cases hi : i < ps.length
      · rw [List.getElem?_append_left (by simpa using hi), List.getElem?_map] at h
        obtain ⟨p, hp⟩ : ∃ p, ps[i]? = some p := ⟨ps[i], List.getElem?_eq_getElem hi⟩
        rw [hp] at h
        cases h
        obtain ⟨v, hv, rv⟩ := ra.get hp
        refine ⟨v, ?_, rv⟩
        unfold L2.start
        rw [List.map_cons, List.cons_append, List.getElem?_cons_succ, List.getElem?_append_left (by rw [List.length_map]; omega), List.getElem?_map, hv]
        rfl
      · rw [List.getElem?_append_right (by simpa using hi), List.getElem?_replicate] at h
        split at h
        · cases h; trivial
        · cases h
  · obtain ⟨s, hs, ho⟩ := hi
    obtain ⟨t, ht, hto⟩ := hj
    rw [own0 hs ho, own0 ht hto]
  · cases h; rfl
end
theorem spLen {G : Th} {cl : Nat → Option (List PV) → List PV → Outc} {f : Nat} {fn : PFn} {vs : List V} {H : Hp} {Q : VK} {E : XK} (h : spOf G cl f fn vs H Q E) : vs.length = fn.ar := by
  unfold spOf at h
  split at h
  · exact h.1
  · exact h.1
/-- a def keeps its promise, where the others do -/
theorem fn_step {P : Program} {w : World} {K : PySem.W.Frag} {mg : Str → Option Value} {base : Heap} {G : Th} {gl : List (Str × GK)} {defs : List PDef} {fuel n f : Nat} {pd : PDef} {fd : FuncData}
    (hgl : ∀ x g, gl.lookup x = some g → GOkK K mg G x g) (ih : FnsOk P w K mg base n G (run (defs.map (·.fn)) fuel n) (defs.map (·.fn))) (hf : (defs.map (·.fn))[f]? = some pd.fn) (hok : defOk gl (defs.map (·.fn)) pd = true)
    (FD : FunD K pd.d.name pd.d.qual pd.d.params pd.d.body pd.d.scope [] [] (G.fa f) fd) : FnOk P w K mg base (L2.CX P w) (n + 1) (G.fa f) fd pd.ps (spOf G (run (defs.map (·.fn)) fuel (n + 1)) f pd.fn) := by
  obtain ⟨h, h5⟩ := and2 hok
  obtain ⟨h, h4⟩ := and2 h
  obtain ⟨h, h3⟩ := and2 h
  obtain ⟨h1, h2⟩ := and2 h
  have har := of_decide_eq_true h2
  have hns := of_decide_eq_true h3
  have S := scopeB_ok h1
  have hNp : pd.ps.length ≤ pd.N.length := by have := congrArg List.length S.pre; rw [List.length_take] at this; omega
  refine FD.ok S (fun vs H Q E z => by rw [spLen z, har]) ?_
  intro cdv A outer s H vs Q E hr hsp
  have hlen := spLen hsp
  have cx : ∀ io, (pd.fn.io = false → io = none) → CX2 G (fun cls d _ H => E cls d H) (run (defs.map (·.fn)) fuel n) io ⟨pd.N, gl, defs.map (·.fn)⟩ ⟨pd.d.scope, fun _ => true, pd.fn.io⟩ (cxOf (L2.CX P w) P w K mg base pd.N pd.d.qual pd.d.scope (G.fa f) cdv A outer s H E) := fun io hio =>
    { N := rfl, io := hio, nd := S.nd, sc := rfl, fn := rfl, calm := rfl, un := by have := hr.un; show (A.deeper (envOfC pd.d.qual pd.d.scope s.heap.objs.size (G.fa f) cdv)).units + 65 < cLine; omega, gl := hgl, room := ⟨n, hr, ih⟩, tk := takes_of rfl rfl rfl rfl, fit := fun f fn o ps hf hne => run_fit hf hne, po := passes_of rfl, kd := S.kind }
  unfold spOf at hsp
  split at hsp
  · -- the first parameter is a list that is changed
    rename_i hio
    obtain ⟨_, P0, F, ps, a, vs', xs, us, rfl, pr, nf, np, ha, hz, rxs, ra, hout⟩ := hsp
    have rel := start_relIO (N := pd.N) pr nf np ha hz rxs ra (by rw [hlen, har]; exact hNp)
    refine ⟨_, (soundS pd.fn.body G _ _ fuel (some a) pd.fn.fr H ⟨pd.d.scope, fun _ => true, pd.fn.io⟩ _ (cx (some a) fun z => by rw [hio] at z; cases z)).2 pd.d.body h5, P0, F, Pu.start pd.fn.ns (some xs) ps, fun _ z => z, by rw [hns]; exact rel, ?_⟩
    have hfr : pd.fn.fr = false := by
      rw [hio] at h4
      simp only [Bool.not_true, Bool.false_or] at h4
      obtain ⟨h4, _⟩ := and2 h4
      simpa using h4
    have hrun : run (defs.map (·.fn)) fuel (n + 1) f (some xs) ps = finish true (denS (run (defs.map (·.fn)) fuel n) fuel pd.fn.body (Pu.start pd.fn.ns (some xs) ps)) ∨ run (defs.map (·.fn)) fuel (n + 1) f (some xs) ps = .stuck := by
      by_cases hft : fits pd.fn (some xs) ps = true
      · left
        rw [run_at hf, if_pos hft, hio]
      · right
        rw [run_at hf, if_neg hft]
    rcases hrun with e | e
    · rw [e] at hout
      have slot0 : ∀ {ρ' F' σ' H'}, Rel G P0 F' (some a) ρ' σ' H' → ∀ {ys}, ioOf true ρ' = some ys → ∃ ws, ¬ F' a ∧ H' a = some (.lst ws) ∧ ws.length ≤ sizeLine ∧ RpA G F' H' ys ws := fun {ρ' F' σ' H'} r {ys} hy => by
        have hy : (match ρ'[(0 : Nat)]? with | some (.own xs) => some xs | _ => none) = some ys := hy
        split at hy
        · rename_i zs h0
          cases hy
          obtain ⟨c, ws, ec, nf', np', hc, hz', r'⟩ := r.at_ 0 _ h0
          rw [r.pin a rfl] at ec; cases ec
          exact ⟨ws, nf', hc, hz', r'⟩
        · cases hy
      cases hd : denS (run (defs.map (·.fn)) fuel n) fuel pd.fn.body (Pu.start pd.fn.ns (some xs) ps) with
      | ok fl ρ' =>
        rw [hd] at hout
        cases fl with
        | nx =>
          intro F' σ' H' ex r'
          have hout : match (match ioOf true ρ' with | some xs => Outc.val .non xs | none => .stuck) with | .val v ys => ∀ F' H' z ws, Ext G P0 F H F' H' → ¬ F' a → H' a = some (.lst ws) → ws.length ≤ sizeLine → RpA G F' H' ys ws → Rp G F' H' v z → Q z H' | .exc c es ys => ∀ F' H' d ws, Ext G P0 F H F' H' → ¬ F' a → H' a = some (.lst ws) → ws.length ≤ sizeLine → RpA G F' H' ys ws → ExcR G F' H' c es d → E (.ref (G.ca c)) d H' | .stuck => False := hout
          cases hi : ioOf true ρ' with
          | none => rw [hi] at hout; exact hout.elim
          | some ys =>
            rw [hi] at hout
            obtain ⟨ws, nf', hc, hz', r''⟩ := slot0 r' hi
            exact hout F' H' .non ws ex nf' hc hz' r'' rp_non
        | ret v =>
          intro F' σ' H' z ex r' rz
          have hout : match (match ioOf true ρ' with | some xs => Outc.val v xs | none => .stuck) with | .val v ys => ∀ F' H' z ws, Ext G P0 F H F' H' → ¬ F' a → H' a = some (.lst ws) → ws.length ≤ sizeLine → RpA G F' H' ys ws → Rp G F' H' v z → Q z H' | .exc c es ys => ∀ F' H' d ws, Ext G P0 F H F' H' → ¬ F' a → H' a = some (.lst ws) → ws.length ≤ sizeLine → RpA G F' H' ys ws → ExcR G F' H' c es d → E (.ref (G.ca c)) d H' | .stuck => False := hout
          cases hi : ioOf true ρ' with
          | none => rw [hi] at hout; exact hout.elim
          | some ys =>
            rw [hi] at hout
            obtain ⟨ws, nf', hc, hz', r''⟩ := slot0 r' hi
            unfold RetR at rz
            rw [hfr] at rz
            exact hout F' H' z ws ex nf' hc hz' r'' rz
        | brk => exact hout.elim
      | exc c es ρ' =>
        rw [hd] at hout
        intro F' σ' H' d ex r' rz
        have hout : match (match ioOf true ρ' with | some xs => Outc.exc c es xs | none => .stuck) with | .val v ys => ∀ F' H' z ws, Ext G P0 F H F' H' → ¬ F' a → H' a = some (.lst ws) → ws.length ≤ sizeLine → RpA G F' H' ys ws → Rp G F' H' v z → Q z H' | .exc c es ys => ∀ F' H' d ws, Ext G P0 F H F' H' → ¬ F' a → H' a = some (.lst ws) → ws.length ≤ sizeLine → RpA G F' H' ys ws → ExcR G F' H' c es d → E (.ref (G.ca c)) d H' | .stuck => False := hout
        cases hi : ioOf true ρ' with
        | none => rw [hi] at hout; exact hout.elim
        | some ys =>
          rw [hi] at hout
          obtain ⟨ws, nf', hc, hz', r''⟩ := slot0 r' hi
          exact hout F' H' d ws ex nf' hc hz' r'' rz
      | stuck => rw [hd] at hout; exact hout.elim
    · rw [e] at hout; exact hout.elim
  · rename_i hio
    have hio : pd.fn.io = false := by simpa using hio
    obtain ⟨_, P0, F, ps, pr, ra, hout⟩ := hsp
    have rel := start_rel (N := pd.N) pr ra (by rw [hlen, har]; exact hNp)
    refine ⟨_, (soundS pd.fn.body G _ _ fuel none pd.fn.fr H ⟨pd.d.scope, fun _ => true, pd.fn.io⟩ _ (cx none fun _ => rfl)).2 pd.d.body h5, P0, F, Pu.start pd.fn.ns none ps, fun _ z => z, by rw [hns]; exact rel, ?_⟩
    have hrun : run (defs.map (·.fn)) fuel (n + 1) f none ps = finish false (denS (run (defs.map (·.fn)) fuel n) fuel pd.fn.body (Pu.start pd.fn.ns none ps)) ∨ run (defs.map (·.fn)) fuel (n + 1) f none ps = .stuck := by
      by_cases hft : fits pd.fn none ps = true
      · left
        rw [run_at hf, if_pos hft, hio]
      · right
        rw [run_at hf, if_neg hft]
    have outV : ∀ {v z F' H' σ' ρ'}, OutF G P0 F H pd.fn.fr v Q → Ext G P0 F H F' H' → Rel G P0 F' none ρ' σ' H' → RetR G pd.fn.fr H σ' ρ' F' H' v z → Q z H' := fun {v z F' H' σ' ρ'} ho ex r' rz => by
      unfold RetR at rz
      unfold OutF at ho
      split at ho
      · rename_i hfr
        rw [if_pos hfr] at rz
        unfold ResB at ho
        rcases rz with ⟨hob, rz⟩ | ⟨c, rfl, hc, nf, no, ob⟩
        · rw [if_neg (by rw [hob]; simp)] at ho
          exact ho F' H' z ex rz
        · have : isObjV v = true := Obj_.obj ob
          rw [if_pos this] at ho
          exact ho F' H' c ex hc nf ob
      · rename_i hfr
        rw [if_neg hfr] at rz
        exact ho F' H' z ex rz
    rcases hrun with e | e
    · rw [e] at hout
      cases hd : denS (run (defs.map (·.fn)) fuel n) fuel pd.fn.body (Pu.start pd.fn.ns none ps) with
      | ok fl ρ' =>
        rw [hd] at hout
        cases fl with
        | nx =>
          intro F' σ' H' ex r'
          have hout : OutF G P0 F H pd.fn.fr .non Q := hout
          refine outV hout ex r' ?_
          unfold RetR
          split
          · exact .inl ⟨rfl, rp_non⟩
          · exact rp_non
        | ret v =>
          intro F' σ' H' z ex r' rz
          exact outV (show OutF G P0 F H pd.fn.fr v Q from hout) ex r' rz
        | brk => exact hout.elim
      | exc c es ρ' =>
        rw [hd] at hout
        exact fun F' σ' H' d ex r' rz => (show ∀ F' H' d, Ext G P0 F H F' H' → ExcR G F' H' c es d → E (.ref (G.ca c)) d H' from hout) F' H' d ex rz
      | stuck => rw [hd] at hout; exact hout.elim
    · rw [e] at hout; exact hout.elim
/-- each def keeps its promise -/
theorem fns_ok {P : Program} {w : World} {K : PySem.W.Frag} {mg : Str → Option Value} {base : Heap} {G : Th} {gl : List (Str × GK)} {defs : List PDef} {fuel : Nat}
    (hdefs : ∀ i pd, defs[i]? = some pd → ∃ fd, FunD K pd.d.name pd.d.qual pd.d.params pd.d.body pd.d.scope [] [] (G.fa i) fd) (hb : ∀ pd ∈ defs, BindsOk pd) (hgl : ∀ x g, gl.lookup x = some g → GOkK K mg G x g)
    (chk : (defs.all fun pd => defOk gl (defs.map (·.fn)) pd) = true) : ∀ n, FnsOk P w K mg base n G (run (defs.map (·.fn)) fuel n) (defs.map (·.fn)) := by
  have each : ∀ {f fn}, (defs.map (·.fn))[f]? = some fn → ∃ pd, defs[f]? = some pd ∧ fn = pd.fn ∧ defOk gl (defs.map (·.fn)) pd = true ∧ BindsOk pd := fun {f fn} h => by
    rw [List.getElem?_map] at h
    cases e : defs[f]? with
    | none => rw [e] at h; cases h
    | some pd =>
      rw [e] at h; cases h
      have m := List.mem_of_getElem? e
      rw [List.all_eq_true] at chk
      exact ⟨pd, e, rfl, chk pd m, hb pd m⟩
  intro n
  induction n with
  | zero =>
    intro f fn hf
    obtain ⟨pd, hpd, rfl, hok, hbind⟩ := each hf
    obtain ⟨fd, FD⟩ := hdefs f pd hpd
    obtain ⟨h, h5⟩ := and2 hok
    obtain ⟨h, h4⟩ := and2 h
    obtain ⟨h, h3⟩ := and2 h
    obtain ⟨h1, h2⟩ := and2 h
    have no : ∀ {vs H Q E}, ¬ spOf G (run (defs.map (·.fn)) fuel 0) f pd.fn vs H Q E := fun {vs H Q E} z => by
      unfold spOf at z
      split at z
      · obtain ⟨_, P, F, ps, a, vs', xs, us, _, _, _, _, _, _, _, _, q⟩ := z
        exact q
      · obtain ⟨_, P, F, ps, _, _, q⟩ := z
        exact q
    exact ⟨fd, pd.ps, ⟨fun vs H Q E z => (no z).elim, fun A outer s H args us vs Q E _ _ _ _ z => (no z).elim⟩, FD.bindsN hbind, FD.kp⟩
  | succ n ih =>
    intro f fn hf
    obtain ⟨pd, hpd, rfl, hok, hbind⟩ := each hf
    obtain ⟨fd, FD⟩ := hdefs f pd hpd
    exact ⟨fd, pd.ps, fn_step hgl ih hf hok FD, FD.bindsN hbind, FD.kp⟩
end Pu
end

section
set_option Elab.async false
set_option linter.all false
set_option maxRecDepth 100000
namespace Pu
open PySem PySem.Spec PyProof.Rows L2 PySem.W RZ

/-! ### the head -/
/-- no list among the written objects -/
def noL (K : PySem.W.Frag) : Bool := K.all fun p => !(p.2.cls == Value.type "list")
theorem noL_ok {K : PySem.W.Frag} (h : noL K = true) {a : Addr} {o : Obj} (e : K.lookup a = some o) : o.cls ≠ .type "list" := fun z => by
  unfold noL at h
  rw [List.all_eq_true] at h
  have m : (a, o) ∈ K := by
    clear h
    induction K with
    | nil => cases e
    | cons p K ih =>
      obtain ⟨b, u⟩ := p
      by_cases q : a = b
      · subst q
        rw [List.lookup_cons_self] at e
        cases e; exact List.mem_cons_self
      · have : (a == b) = false := by simpa using q
        rw [List.lookup_cons, this] at e
        exact List.mem_cons_of_mem _ (ih e)
  have := h (a, o) m
  rw [z] at this
  exact absurd this (by decide)
def hookP (n : Nat) (fa : List He.Fa) (fn : List He.DefD) : PySem.W.Hook where
  α := He.AlD × Bool
  obs := fun s => (He.obsDG n fa fn s.heap.get?, noL (He.frG s.heap.get? (He.asD s.heap.get? n)))
  val := fun _ => (He.valD fn, true)
  says := fun _ h => ∃ K : PySem.W.Frag, K.In h ∧ He.SaysD fa fn K ∧ noL K = true
  of := fun _ _ e => ⟨_, He.frG_in, congrArg (fun z : He.AlD × Bool => z.1) e, congrArg (fun z : He.AlD × Bool => z.2) e⟩
  keeps := fun _ _ _ ⟨K, hK, c⟩ k => ⟨K, PySem.W.Frag.In.keeps hK k, c⟩
def obP (n : Nat) (fa : List He.Fa) (fn : List He.DefD) (g : Addr → Option Obj) : He.AlD × Bool := (He.obsDG n fa fn g, noL (He.frG g (He.asD g n)))
theorem obP_eq {n : Nat} {fa : List He.Fa} {fn : List He.DefD} {g : Addr → Option Obj} {s : Shared} (h : ∀ a, g a = s.heap.get? a) : obP n fa fn g = (hookP n fa fn).obs s := by
  have e : g = s.heap.get? := funext h
  rw [e] <;> rfl
def faG : Str × GK → List He.Fa
  | (x, .free) => [.free x]
  | (x, .fn _) => [.glo x]
  | (x, .cls _) => [.glo x, .exc x]
  | (x, .cst (.int i)) => [.int x i]
  | (x, .cst (.str s)) => [.str x (strV s)]
  | (_, .cst _) => []
def faOf (gl : List (Str × GK)) : List He.Fa := gl.flatMap faG
def gnames (defs : List PDef) (cs : List Str) (gl : List (Str × GK)) : Bool := gl.all fun p => match p.2 with
  | .free => true
  | .fn f => (match defs[f]? with | some pd => decide (pd.d.at_ = (p.1, none)) | none => false)
  | .cls c => decide (cs[c]? = some p.1)
  | .cst (.int _) => true
  | .cst (.str s) => PyData.strOk (strV s) && decide (s.length ≤ big)
  | .cst _ => false
def thOf (K : PySem.W.Frag) (defs : List PDef) (cs : List Str) (T : List (Addr × Str)) : Th where
  fa := fun f => match defs[f]? with | some pd => He.fAd K pd.d.at_ | none => 0
  ca := fun c => He.ga K (cs.getD c Str.empty)
  fld := fun _ => Str.empty
  T := T
section
variable {K : PySem.W.Frag} {h : Heap} {mg : Str → Option Value} {gl : List (Str × GK)} {defs : List PDef} {cs : List Str} {T : List (Addr × Str)}
theorem says_mem {fa : List He.Fa} {fn : List He.DefD} (c : He.SaysD fa fn K) {f : He.Fa} (hf : f ∈ fa) : f.ok K = true := by
  have c1 := (He.ba (show ((fa.all fun f => f.ok K) && fn.all fun d => d.ok K) = true from congrArg (fun z : He.AlD => z.1) c)).1
  exact List.all_eq_true.mp c1 f hf
theorem gl_ok (X : K.In h) (Gn : h.Ns mainGlobals mg) (c : He.SaysD (faOf gl) (defs.map (·.d)) K) (hn : gnames defs cs gl = true) : ∀ x g, gl.lookup x = some g → GOkK K mg (thOf K defs cs T) x g := fun x g e => by
  have m : (x, g) ∈ gl := PySem.mem_of_lookup e
  unfold gnames at hn
  rw [List.all_eq_true] at hn
  have hn := hn _ m
  have fm : ∀ f ∈ faG (x, g), f.ok K = true := fun f hf => says_mem c (List.mem_flatMap.mpr ⟨_, m, hf⟩)
  cases g with
  | free => exact He.free_ok X Gn (fm _ (by simp [faG]))
  | fn f =>
    have g1 := He.glo_ok X Gn (fm (.glo x) (by simp [faG]))
    show mg x = some (.ref (match defs[f]? with | some pd => He.fAd K pd.d.at_ | none => 0))
    have hn : (match defs[f]? with | some pd => decide (pd.d.at_ = (x, none)) | none => false) = true := hn
    split at hn
    · rename_i pd hpd
      show mg x = some (.ref (He.fAd K pd.d.at_))
      rw [of_decide_eq_true hn]
      exact g1
    · cases hn
  | cls k =>
    have g1 := He.glo_ok X Gn (fm (.glo x) (by simp [faG]))
    have hn := of_decide_eq_true (show decide (cs[k]? = some x) = true from hn)
    have e1 : (thOf K defs cs T).ca k = He.ga K x := by
      show He.ga K (cs.getD k Str.empty) = _
      rw [List.getD_eq_getElem?_getD, hn]; rfl
    obtain ⟨q1, q2, q3, q4⟩ := He.exc_ok (fm (.exc x) (by simp [faG]))
    refine ⟨by rw [e1]; exact g1, by rw [e1]; exact q1, by rw [e1]; exact q2, by rw [e1]; exact q3, by rw [e1]; exact q4⟩
  | cst v =>
    cases v <;> first | (cases hn; done) | skip
    · rename_i i
      obtain ⟨t, ht⟩ := He.int_ok X Gn (fm (.int x i) (by simp [faG]))
      exact ⟨_, .int i, ht, ⟨t, rfl⟩, fun F H => rp_int⟩
    · rename_i s
      obtain ⟨t, ht⟩ := He.str_ok X Gn (fm (.str x (strV s)) (by simp [faG]))
      obtain ⟨h1, h2⟩ := and2 hn
      exact ⟨_, .str (strV s), ht, ⟨t, rfl⟩, fun F H => rp_str h1 (le_line (of_decide_eq_true h2))⟩
theorem defs_ok (c : He.SaysD (faOf gl) (defs.map (·.d)) K) (hd : (defs.all fun pd => pd.d.dfl.isEmpty && pd.d.kwd.isEmpty) = true) : ∀ i pd, defs[i]? = some pd → ∃ fd, FunD K pd.d.name pd.d.qual pd.d.params pd.d.body pd.d.scope [] [] ((thOf K defs cs T).fa i) fd := fun i pd e => by
  obtain ⟨fd, F⟩ := c.def_ i (d := pd.d) (by rw [List.getElem?_map, e]; rfl)
  rw [List.all_eq_true] at hd
  obtain ⟨h1, h2⟩ := and2 (hd pd (List.mem_of_getElem? e))
  have e1 : pd.d.dvs K = [] := by unfold He.DefD.dvs; rw [List.isEmpty_iff.mp h1]; rfl
  have e2 : pd.d.kws K = [] := by unfold He.DefD.kws; rw [List.isEmpty_iff.mp h2]; rfl
  rw [e1, e2] at F
  refine ⟨fd, ?_⟩
  show FunD K _ _ _ _ _ _ _ (match defs[i]? with | some pd => He.fAd K pd.d.at_ | none => 0) fd
  rw [e]
  exact F
/-- the law's promise -/
theorem law_ends {P : Program} {w : World} {fa : Addr} {fuel k lf : Nat} {pd : PDef} {x : Str} {nmax : Nat} (KX : K.In h) (Gn : h.Ns mainGlobals mg) (c : He.SaysD (faOf gl) (defs.map (·.d)) K) (nl : noL K = true) (hmg : mg x = some (.ref fa)) (hx : gl.lookup x = some (.fn lf))
    (hn : gnames defs cs gl = true) (hd : (defs.all fun pd => pd.d.dfl.isEmpty && pd.d.kwd.isEmpty) = true) (hb : ∀ pd ∈ defs, BindsOk pd) (chk : (defs.all fun pd => defOk gl (defs.map (·.fn)) pd) = true)
    (hpd : defs[lf]? = some pd) (hp : pd.ps = [("script" : Str)]) (hfn : pd.fn.ar = 1 ∧ pd.fn.io = false ∧ pd.fn.fr = false) (hmax : nmax ≤ big)
    (main : ∀ ns : List Int, ns.length ≤ nmax → ∃ io, run (defs.map (·.fn)) fuel (k + 1) lf none [.scr (ns.map .int)] = .val (.bl true) io) :
    ∃ (fd : FuncData) (sp : Sp), (∀ (s : Shared) (u : Value), BindsTo s fd ⟨[u], []⟩ [(("script" : Str), u)]) ∧
      (∀ (H : Hp) (a : Addr) (ns : List Int), ns.length ≤ nmax → Only H → SqL K H a (ns.map V.int) → sp [.ref a] H (fun v _ => v = .bl true) fun _ _ _ => False) ∧
      ∀ base : Heap, K.In base → base.Ns mainGlobals mg → FnOk P w K mg base (L2.CX P w) (k + 1) fa fd [("script" : Str)] sp := by
  have hgl := gl_ok (T := []) KX Gn c hn
  have hdf := defs_ok (T := []) (cs := cs) c hd
  obtain ⟨fd, FD⟩ := hdf lf pd hpd
  have hf : (defs.map (·.fn))[lf]? = some pd.fn := by rw [List.getElem?_map, hpd]; rfl
  have m := List.mem_of_getElem? hpd
  have hok := List.all_eq_true.mp chk pd m
  have hfa : (thOf K defs cs []).fa lf = fa := by
    have e : mg x = some (.ref ((thOf K defs cs []).fa lf)) := hgl x _ hx
    rw [hmg] at e
    injection e with e
    injection e with e
    exact e.symm
  have hbA := FunD.bindsA (ps := pd.ps) FD (hb pd m)
  rw [hp] at hbA
  refine ⟨fd, spOf (thOf K defs cs []) (run (defs.map (·.fn)) fuel (k + 1)) lf pd.fn, fun s u => hbA s [u] rfl, fun H a ns hl hO hS => ?_, fun base kb nb => ?_⟩
  · obtain ⟨o, hfrz⟩ : ∃ o, H a = some (.frz o (.lst (ns.map V.int))) := by
      rcases hS with hS | ⟨o, its, n, hk, hc, _⟩
      · rcases hS with hS | hS
        · rcases hO a with z | ⟨o, xs, z⟩
          · rw [z] at hS; cases hS
          · rw [z] at hS; cases hS
        · exact hS
      · exact absurd hc (noL_ok nl hk)
    obtain ⟨io, hrun⟩ := main ns hl
    unfold spOf
    rw [if_neg (by rw [hfn.2.1]; simp)]
    have ra : ∀ ns : List Int, RpA (thOf K defs cs []) (fun b => b = a) H (ns.map .int) (ns.map V.int) := fun ns => by
      induction ns with
      | nil => exact RpA.nil
      | cons n ns ih => exact RpA.cons rp_int ih
    refine ⟨hfn.1.symm, fun _ => False, fun b => b = a, [.scr (ns.map .int)], ⟨fun _ z => z.elim, fun _ z => z.elim, fun p hp => (nomatch hp), fun b z => ⟨_, z ▸ hfrz⟩⟩, RpA.cons ?_ RpA.nil, ?_⟩
    · unfold Rp
      exact ⟨a, ns.map V.int, o, rfl, rfl, hfrz, by rw [List.length_map]; exact le_line (Nat.le_trans hl hmax), ra ns⟩
    · rw [hrun]
      show OutF _ _ _ H pd.fn.fr (.bl true) _
      unfold OutF
      rw [hfn.2.2, if_neg (by simp)]
      intro F' H' z e rz
      unfold Rp at rz
      exact rz
  · have hgl' := gl_ok (T := []) kb nb c hn
    have := fn_step (P := P) (w := w) (base := base) (fuel := fuel) hgl' (fns_ok hdf hb hgl' chk k) hf hok FD
    rw [hfa, hp] at this
    exact this
end
end Pu
end

section
set_option maxRecDepth 100000
set_option maxHeartbeats 4000000
set_option linter.all false
set_option Elab.async false
namespace Pu
open PySem PySem.Spec PyProof.Rows L2 PySem.W
/-- from a def's promise, whose way out may name the world, to the law -/
theorem walkW {row : PySem.W.OpenLaw} {most lev : Nat} {head : Program}
    {lo : List Str} {facts : (Str → Option Value) → Heap → Prop}
    {says : World → Heap → Prop} {df : DefRec} {C : World → CXT} {nm : Str}
    (e1 : row.most = some most) (e2 : most ≤ sizeLine)
    (e3 : df.params.defaults = []) (e4 : Room lev callerA)
    (F : ∀ (w : World) (mg : Str → Option Value) (fa : Addr) (h : Heap),
      says w h → h.Ns mainGlobals mg → mg df.name = some (.ref fa) →
      ∃ (K : PySem.W.Frag) (fd : FuncData) (sp : Sp), K.In h ∧
        (∀ (s : Shared) (u : Value), BindsTo s fd ⟨[u], []⟩ [(nm, u)]) ∧
        (∀ (H : Hp) (a : Addr) (ns : List Int), ns.length ≤ most → Only H →
          SqL K H a (ns.map V.int) →
          sp [.ref a] H (fun v _ => v = .bl true) fun _ _ _ => False) ∧
        ∀ base : Heap, K.In base → base.Ns mainGlobals mg →
          FnOk row.prog w K mg base (C w) lev fa fd [nm] sp)
    (out : ∀ (w : World) (H : Hp) (s : Shared) (e : Value) (s' : Shared),
      C w [] H s (fun _ _ _ => False) e s' → False) :
    PySem.W.WalkO head lo facts says row.row.toRowW df []
      (fun f vs => PySem.call f vs) := by
  apply Att.attach_call e1 e3
  intro w _ t mg _ fa _ _ _ _ a vs ns G Y _ _ _ hm ho hi hle hge
  have T := G.T
  rcases F w mg fa _ Y T.g hm with ⟨K, fd, sp, k1, k2, k3, k4⟩
  exact law_call k1 T.g T.b T.builtins T.nolimit hge ho hi (Nat.le_trans hle e2) e4 k4 k2
    (fun H o q => k3 H a ns hle o q) (fun H e s' => out w H t e s')
end Pu
end

section
set_option Elab.async false
set_option linter.all false
set_option maxRecDepth 100000
namespace Pu
/-! ### what running comes to, in plain terms -/
def Wp {α : Type} (r : R α) (Q : α → Sl → Prop) (E : Nat → List PV → Sl → Prop) : Prop := match r with
  | .ok a ρ => Q a ρ
  | .exc c vs ρ => E c vs ρ
  | .stuck => False
def Wo {α : Type} (o : Option α) (Q : α → Prop) : Prop := match o with
  | some a => Q a
  | none => False
def Wc (o : Outc) (Q : PV → List PV → Prop) (E : Nat → List PV → List PV → Prop) : Prop := match o with
  | .val v io => Q v io
  | .exc c vs io => E c vs io
  | .stuck => False
section
variable {α β : Type} {Q : α → Sl → Prop} {E : Nat → List PV → Sl → Prop} {ρ : Sl}
theorem wp_ok {a : α} : Wp (.ok a ρ) Q E = Q a ρ := rfl
theorem wp_exc {c : Nat} {vs : List PV} : Wp (.exc c vs ρ) Q E = E c vs ρ := rfl
theorem wp_stuck : Wp (.stuck : R α) Q E = False := rfl
theorem wp_bind {r : R β} {f : β → Sl → R α} : Wp (r.bind f) Q E = Wp r (fun a ρ => Wp (f a ρ) Q E) E := by cases r <;> rfl
theorem wp_of {o : Option α} : Wp (R.of o ρ) Q E = Wo o fun a => Q a ρ := by cases o <;> rfl
theorem wp_if {c : Prop} [Decidable c] {a b : R α} : Wp (if c then a else b) Q E = if c then Wp a Q E else Wp b Q E := by split <;> rfl
theorem wo_some {a : α} {Q : α → Prop} : Wo (some a) Q = Q a := rfl
theorem wo_none {Q : α → Prop} : Wo (none : Option α) Q = False := rfl
theorem wo_if {c : Prop} [Decidable c] {a b : Option α} {Q : α → Prop} : Wo (if c then a else b) Q = if c then Wo a Q else Wo b Q := by split <;> rfl
theorem wo_map {o : Option β} {f : β → α} {Q : α → Prop} : Wo (o.map f) Q = Wo o fun a => Q (f a) := by cases o <;> rfl
theorem wo_bind {o : Option β} {f : β → Option α} {Q : α → Prop} : Wo (o.bind f) Q = Wo o fun a => Wo (f a) Q := by cases o <;> rfl
theorem Wp.mono {r : R α} {Q' : α → Sl → Prop} {E' : Nat → List PV → Sl → Prop} (h : Wp r Q E) (hq : ∀ a ρ, Q a ρ → Q' a ρ) (he : ∀ c vs ρ, E c vs ρ → E' c vs ρ) : Wp r Q' E' := by
  cases r with
  | ok a ρ => exact hq _ _ h
  | exc c vs ρ => exact he _ _ _ h
  | stuck => exact h
end
section
variable {cl : Nat → Option (List PV) → List PV → Outc} {fuel : Nat} {Q : PV → Sl → Prop} {Qb : Bool → Sl → Prop} {Qi : List PV → Sl → Prop} {E : Nat → List PV → Sl → Prop} {ρ : Sl} {a b c p lo hi l e it kx vx : PX}
/-- what a name holds, read -/
def Wv (i : Nat) (ρ : Sl) (Q : PV → Sl → Prop) : Prop := match ρ[i]? with
  | some (.val p) => Q p ρ
  | some (.own xs) => Q (.lst xs) (ρ.set i (.val (.lst xs)))
  | some (.ownD t ks vs) => Q (.dic t ks vs) (ρ.set i (.val (.dic t ks vs)))
  | _ => False
def Wpk (i : Nat) (ρ : Sl) (Q : PV → Prop) : Prop := Wo (peek i ρ) Q
theorem wp_rd {i : Nat} : Wp (rd i ρ) Q E = Wv i ρ Q := by
  unfold rd Wv
  cases ρ[i]? with
  | none => rfl
  | some s => cases s <;> rfl
-- values
theorem v_k {x : PV} : Wp ((sem cl (.k x)).v ρ) Q E = Q x ρ := rfl
theorem v_var {i : Nat} : Wp ((sem cl (.var i)).v ρ) Q E = Wv i ρ Q := wp_rd
theorem v_bin {o : BOp} : Wp ((sem cl (.bin o a b)).v ρ) Q E = Wp ((sem cl a).v ρ) (fun x ρ => Wp ((sem cl b).v ρ) (fun y ρ => Wo (binop o x y) fun v => Q v ρ) E) E := by
  show Wp (R.bind _ _) Q E = _
  rw [wp_bind]; congr; funext x ρ; rw [wp_bind]; congr; funext y ρ; rw [wp_of]
theorem v_neg : Wp ((sem cl (.neg a)).v ρ) Q E = Wp ((sem cl a).v ρ) (fun x ρ => Wp (negP x ρ) Q E) E := wp_bind
theorem v_not : Wp ((sem cl (.not a)).v ρ) Q E = Wp ((sem cl a).v ρ) (fun x ρ => Wo (notP x) fun v => Q v ρ) E := by
  show Wp (R.bind _ _) Q E = _
  rw [wp_bind]; congr; funext x ρ; rw [wp_of]
theorem v_one : Wp ((sem cl (.one a)).v ρ) Q E = Wp ((sem cl a).v ρ) Q E := rfl
theorem v_and : Wp ((sem cl (.and a b)).v ρ) Q E = Wp ((sem cl a).v ρ) (fun x ρ => Wp (andP (sem cl b).v x ρ) Q E) E := wp_bind
theorem v_or : Wp ((sem cl (.or a b)).v ρ) Q E = Wp ((sem cl a).v ρ) (fun x ρ => Wp (orP (sem cl b).v x ρ) Q E) E := wp_bind
theorem w_andT {f : Sl → R PV} {t : Bool} : Wp (andP f (.bl t) ρ) Q E = if t then Wp (f ρ) Q E else Q (.bl false) ρ := by cases t <;> rfl
theorem w_orT {f : Sl → R PV} {t : Bool} : Wp (orP f (.bl t) ρ) Q E = if t then Q (.bl true) ρ else Wp (f ρ) Q E := by cases t <;> rfl
theorem v_ife : Wp ((sem cl (.ife c a b)).v ρ) Q E = Wp ((sem cl c).t ρ) (fun t ρ => if t then Wp ((sem cl a).v ρ) Q E else Wp ((sem cl b).v ρ) Q E) E := by
  show Wp (R.bind _ _) Q E = _
  rw [wp_bind]; congr; funext x ρ; rw [wp_if]
theorem v_cmp {o : COp} : Wp ((sem cl (.cmp o a b)).v ρ) Q E = Wp ((sem cl a).v ρ) (fun x ρ => Wp ((sem cl b).v ρ) (fun y ρ => Wo (cmpop o x y) fun t => Q (.bl t) ρ) E) E := by
  show Wp (R.bind (R.bind _ _) _) Q E = _
  rw [wp_bind, wp_bind]; congr; funext x ρ; rw [wp_bind]; congr; funext y ρ; rw [wp_of]; rfl
theorem t_cmp {o : COp} : Wp ((sem cl (.cmp o a b)).t ρ) Qb E = Wp ((sem cl a).v ρ) (fun x ρ => Wp ((sem cl b).v ρ) (fun y ρ => Wo (cmpop o x y) fun t => Qb t ρ) E) E := by
  show Wp (R.bind _ _) Qb E = _
  rw [wp_bind]; congr; funext x ρ; rw [wp_bind]; congr; funext y ρ; rw [wp_of]
theorem t_chain {o o' : COp} : Wp ((sem cl (.chain o o' a b c)).t ρ) Qb E = Wp ((sem cl a).v ρ) (fun x ρ => Wp ((sem cl b).v ρ) (fun y ρ => Wo (cmpop o x y) fun t => if t then Wp ((sem cl c).v ρ) (fun z ρ => Wo (cmpop o' y z) fun t => Qb t ρ) E else Qb false ρ) E) E := by
  show Wp (R.bind _ _) Qb E = _
  rw [wp_bind]; congr; funext x ρ; rw [wp_bind]; congr; funext y ρ; rw [wp_bind, wp_of]; congr; funext t; rw [wp_if, wp_bind]; congr; funext z ρ; rw [wp_of]
theorem v_chain {o o' : COp} : Wp ((sem cl (.chain o o' a b c)).v ρ) Q E = Wp ((sem cl (.chain o o' a b c)).t ρ) (fun t ρ => Q (.bl t) ρ) E := wp_bind
theorem v_inS {n : Bool} {i : Nat} : Wp ((sem cl (.inS n a i)).v ρ) Q E = Wp ((sem cl a).v ρ) (fun x ρ => Wpk i ρ fun d => Wo (cmpop (if n then .notin else .isin) x d) fun t => Q (.bl t) ρ) E := by
  show Wp (R.bind (R.bind _ _) _) Q E = _
  rw [wp_bind, wp_bind]; congr; funext x ρ; rw [wp_of, wo_bind]; rfl
theorem t_inS {n : Bool} {i : Nat} : Wp ((sem cl (.inS n a i)).t ρ) Qb E = Wp ((sem cl a).v ρ) (fun x ρ => Wpk i ρ fun d => Wo (cmpop (if n then .notin else .isin) x d) fun t => Qb t ρ) E := by
  show Wp (R.bind _ _) Qb E = _
  rw [wp_bind]; congr; funext x ρ; rw [wp_of, wo_bind]; rfl
theorem v_nil : Wp ((sem cl .nil).v ρ) Q E = Q (.tup []) ρ := rfl
theorem v_cons : Wp ((sem cl (.cons a b)).v ρ) Q E = Wp ((sem cl a).v ρ) (fun x ρ => Wp ((sem cl b).v ρ) (fun y ρ => Wp (consP x y ρ) Q E) E) E := by
  show Wp (R.bind _ _) Q E = _
  rw [wp_bind]; congr; funext x ρ; rw [wp_bind]
theorem w_cons {x : PV} {ys : List PV} : Wp (consP x (.tup ys) ρ) Q E = Q (.tup (x :: ys)) ρ := rfl
theorem v_tup : Wp ((sem cl (.tup l)).v ρ) Q E = Wp ((sem cl l).v ρ) (fun y ρ => Wo (tupOk y) fun v => Q v ρ) E := by
  show Wp (R.bind _ _) Q E = _
  rw [wp_bind]; congr; funext x ρ; rw [wp_of]
theorem v_lst : Wp ((sem cl (.lst l)).v ρ) Q E = Wp ((sem cl l).v ρ) (fun y ρ => Wo (lstOk y) fun v => Q v ρ) E := by
  show Wp (R.bind _ _) Q E = _
  rw [wp_bind]; congr; funext x ρ; rw [wp_of]
theorem v_ix : Wp ((sem cl (.ix a b)).v ρ) Q E = Wp ((sem cl a).v ρ) (fun x ρ => Wp ((sem cl b).v ρ) (fun y ρ => Wo (index x y) fun v => Q v ρ) E) E := by
  show Wp (R.bind _ _) Q E = _
  rw [wp_bind]; congr; funext x ρ; rw [wp_bind]; congr; funext y ρ; rw [wp_of]
theorem v_ixS {i : Nat} : Wp ((sem cl (.ixS i b)).v ρ) Q E = if (peek i ρ).isSome then Wp ((sem cl b).v ρ) (fun y ρ => Wpk i ρ fun x => Wo (index x y) fun v => Q v ρ) E else False := by
  show Wp (if _ then R.bind _ _ else _) Q E = _
  rw [wp_if, wp_bind]; congr; funext y ρ; rw [wp_of, wo_bind]; rfl
theorem v_sl : Wp ((sem cl (.sl a lo hi)).v ρ) Q E = Wp ((sem cl a).v ρ) (fun x ρ => Wp (oOf lo (sem cl lo) ρ) (fun l ρ => Wp (oOf hi (sem cl hi) ρ) (fun h ρ => Wo (slice x l h) fun v => Q v ρ) E) E) E := by
  show Wp (R.bind _ _) Q E = _
  rw [wp_bind]; congr; funext x ρ; rw [wp_bind]; congr; funext l ρ; rw [wp_bind]; congr; funext h ρ; rw [wp_of]
theorem o_nil {Qo : Option Int → Sl → Prop} : Wp (oOf .nil (sem cl .nil) ρ) Qo E = Qo none ρ := rfl
theorem o_some {Qo : Option Int → Sl → Prop} (h : oOf p (sem cl p) = (fun ρ => ((sem cl p).v ρ).bind fun x ρ => .of (optInt x) ρ) := by rfl) : Wp (oOf p (sem cl p) ρ) Qo E = Wp ((sem cl p).v ρ) (fun x ρ => Wo (optInt x) fun o => Qo o ρ) E := by
  rw [h, wp_bind]; congr; funext x ρ; rw [wp_of]
theorem v_rev : Wp ((sem cl (.rev a)).v ρ) Q E = Wp ((sem cl a).v ρ) (fun x ρ => Wo (rev x) fun v => Q v ρ) E := by
  show Wp (R.bind _ _) Q E = _
  rw [wp_bind]; congr; funext x ρ; rw [wp_of]
theorem v_b1 {f : B1} : Wp ((sem cl (.b1 f a)).v ρ) Q E = Wp ((sem cl a).v ρ) (fun x ρ => Wo (b1 f x) fun v => Q v ρ) E := by
  show Wp (R.bind _ _) Q E = _
  rw [wp_bind]; congr; funext x ρ; rw [wp_of]
theorem v_b2 {f : B2} : Wp ((sem cl (.b2 f a b)).v ρ) Q E = Wp ((sem cl a).v ρ) (fun x ρ => Wp ((sem cl b).v ρ) (fun y ρ => Wo (b2 f x y) fun v => Q v ρ) E) E := by
  show Wp (R.bind _ _) Q E = _
  rw [wp_bind]; congr; funext x ρ; rw [wp_bind]; congr; funext y ρ; rw [wp_of]
theorem v_lenS {i : Nat} : Wp ((sem cl (.lenS i)).v ρ) Q E = Wpk i ρ fun x => Wo (b1 .len x) fun v => Q v ρ := by
  show Wp (R.of _ _) Q E = _
  rw [wp_of, wo_bind]; rfl
theorem v_isi {t : TyN} : Wp ((sem cl (.isi a t)).v ρ) Q E = Wp ((sem cl a).v ρ) (fun x ρ => Wo (isTyO t x) fun v => Q v ρ) E := by
  show Wp (R.bind _ _) Q E = _
  rw [wp_bind]; congr; funext x ρ; rw [wp_of]
theorem v_call {f : Nat} : Wp ((sem cl (.call f l)).v ρ) Q E = Wp ((sem cl l).v ρ) (fun y ρ => Wp (callP cl f y ρ) Q E) E := wp_bind
theorem v_callF {f : Nat} : Wp ((sem cl (.callF f l)).v ρ) Q E = Wp ((sem cl l).v ρ) (fun y ρ => Wp (callP cl f y ρ) Q E) E := wp_bind
theorem v_callIO {f i : Nat} : Wp ((sem cl (.callIO f i l)).v ρ) Q E = if (peek i ρ).isSome then Wp ((sem cl l).v ρ) (fun y ρ => Wp (callPIO cl f i y ρ) Q E) E else False := by
  show Wp (if _ then R.bind _ _ else _) Q E = _
  rw [wp_if, wp_bind]; rfl
theorem w_call {f : Nat} {ys : List PV} : Wp (callP cl f (.tup ys) ρ) Q E = Wc (cl f none ys) (fun v _ => Q v ρ) fun c vs _ => E c vs ρ := by
  show Wp (callR (cl f none ys) ρ) Q E = _
  cases cl f none ys <;> rfl
/-- a call that changes the list at i -/
def Wio (i : Nat) (f : Nat) (ys : List PV) (cl : Nat → Option (List PV) → List PV → Outc) (ρ : Sl) (Q : PV → Sl → Prop) (E : Nat → List PV → Sl → Prop) : Prop := match ρ[i]? with
  | some (.own xs) => Wc (cl f (some xs) ys) (fun v io => Q v (ρ.set i (.own io))) fun c vs io => E c vs (ρ.set i (.own io))
  | _ => False
theorem w_callIO {f i : Nat} {ys : List PV} : Wp (callPIO cl f i (.tup ys) ρ) Q E = Wio i f ys cl ρ Q E := by
  unfold callPIO Wio
  cases ρ[i]? with
  | none => rfl
  | some s =>
    cases s <;> try rfl
    rename_i xs
    show Wp (match cl f (some xs) ys with | .val v io => .ok v (ρ.set i (.own io)) | .exc c vs io => .exc c vs (ρ.set i (.own io)) | .stuck => .stuck) Q E = Wc (cl f (some xs) ys) _ _
    cases cl f (some xs) ys <;> rfl
theorem v_comp {vs : List Nat} {tg : Tg} : Wp ((sem cl (.comp vs tg it c e)).v ρ) Q E = Wp ((sem cl it).i ρ) (fun xs ρ => Wp (compP vs tg (cOf c (sem cl c)) (sem cl e).v xs ρ) Q E) E := wp_bind
-- tests
theorem t_not : Wp ((sem cl (.not a)).t ρ) Qb E = Wp ((sem cl a).t ρ) (fun t ρ => Qb (!t) ρ) E := wp_bind
theorem t_one : Wp ((sem cl (.one a)).t ρ) Qb E = Wp ((sem cl a).t ρ) Qb E := rfl
theorem t_and : Wp ((sem cl (.and a b)).t ρ) Qb E = Wp ((sem cl a).t ρ) (fun t ρ => if t then Wp ((sem cl b).t ρ) Qb E else Qb false ρ) E := by
  show Wp (R.bind _ _) Qb E = _
  rw [wp_bind]; congr; funext t ρ; rw [wp_if]; rfl
theorem t_or : Wp ((sem cl (.or a b)).t ρ) Qb E = Wp ((sem cl a).t ρ) (fun t ρ => if t then Qb true ρ else Wp ((sem cl b).t ρ) Qb E) E := by
  show Wp (R.bind _ _) Qb E = _
  rw [wp_bind]; congr; funext t ρ; rw [wp_if]; rfl
theorem t_ife : Wp ((sem cl (.ife c a b)).t ρ) Qb E = Wp ((sem cl c).t ρ) (fun t ρ => if t then Wp ((sem cl a).t ρ) Qb E else Wp ((sem cl b).t ρ) Qb E) E := by
  show Wp (R.bind _ _) Qb E = _
  rw [wp_bind]; congr; funext x ρ; rw [wp_if]
theorem t_of (h : (sem cl p).t = (fun ρ => ((sem cl p).v ρ).bind fun x ρ => .of (truth x) ρ)) : Wp ((sem cl p).t ρ) Qb E = Wp ((sem cl p).v ρ) (fun x ρ => Wo (truth x) fun t => Qb t ρ) E := by
  rw [h, wp_bind]; congr; funext x ρ; rw [wp_of]
theorem t_k {x : PV} : Wp ((sem cl (.k x)).t ρ) Qb E = Wo (truth x) fun t => Qb t ρ := by rw [t_of rfl]; rfl
theorem t_var {i : Nat} : Wp ((sem cl (.var i)).t ρ) Qb E = Wv i ρ fun x ρ => Wo (truth x) fun t => Qb t ρ := by rw [t_of rfl]; exact wp_rd
theorem t_bin {o : BOp} : Wp ((sem cl (.bin o a b)).t ρ) Qb E = Wp ((sem cl (.bin o a b)).v ρ) (fun x ρ => Wo (truth x) fun t => Qb t ρ) E := t_of rfl
theorem t_b1 {f : B1} : Wp ((sem cl (.b1 f a)).t ρ) Qb E = Wp ((sem cl (.b1 f a)).v ρ) (fun x ρ => Wo (truth x) fun t => Qb t ρ) E := t_of rfl
theorem t_isi {t : TyN} : Wp ((sem cl (.isi a t)).t ρ) Qb E = Wp ((sem cl (.isi a t)).v ρ) (fun x ρ => Wo (truth x) fun t => Qb t ρ) E := t_of rfl
theorem t_ix : Wp ((sem cl (.ix a b)).t ρ) Qb E = Wp ((sem cl (.ix a b)).v ρ) (fun x ρ => Wo (truth x) fun t => Qb t ρ) E := t_of rfl
theorem t_ixS {i : Nat} : Wp ((sem cl (.ixS i b)).t ρ) Qb E = Wp ((sem cl (.ixS i b)).v ρ) (fun x ρ => Wo (truth x) fun t => Qb t ρ) E := t_of rfl
theorem t_call {f : Nat} : Wp ((sem cl (.call f l)).t ρ) Qb E = Wp ((sem cl (.call f l)).v ρ) (fun x ρ => Wo (truth x) fun t => Qb t ρ) E := t_of rfl
theorem t_callIO {f i : Nat} : Wp ((sem cl (.callIO f i l)).t ρ) Qb E = Wp ((sem cl (.callIO f i l)).v ρ) (fun x ρ => Wo (truth x) fun t => Qb t ρ) E := t_of rfl
theorem t_comp {vs : List Nat} {tg : Tg} : Wp ((sem cl (.comp vs tg it c e)).t ρ) Qb E = Wp ((sem cl (.comp vs tg it c e)).v ρ) (fun x ρ => Wo (truth x) fun t => Qb t ρ) E := t_of rfl
-- walked
theorem i_of (h : (sem cl p).i = (fun ρ => ((sem cl p).v ρ).bind fun x ρ => .of (itemsOf x) ρ)) : Wp ((sem cl p).i ρ) Qi E = Wp ((sem cl p).v ρ) (fun x ρ => Wo (itemsOf x) fun t => Qi t ρ) E := by
  rw [h, wp_bind]; congr; funext x ρ; rw [wp_of]
theorem i_var {i : Nat} : Wp ((sem cl (.var i)).i ρ) Qi E = Wv i ρ fun x ρ => Wo (itemsOf x) fun t => Qi t ρ := by rw [i_of rfl]; exact wp_rd
theorem i_call {f : Nat} : Wp ((sem cl (.call f l)).i ρ) Qi E = Wp ((sem cl (.call f l)).v ρ) (fun x ρ => Wo (itemsOf x) fun t => Qi t ρ) E := i_of rfl
theorem i_sl : Wp ((sem cl (.sl a lo hi)).i ρ) Qi E = Wp ((sem cl (.sl a lo hi)).v ρ) (fun x ρ => Wo (itemsOf x) fun t => Qi t ρ) E := i_of rfl
theorem i_ix : Wp ((sem cl (.ix a b)).i ρ) Qi E = Wp ((sem cl (.ix a b)).v ρ) (fun x ρ => Wo (itemsOf x) fun t => Qi t ρ) E := i_of rfl
theorem i_rev : Wp ((sem cl (.rev a)).i ρ) Qi E = Wp ((sem cl (.rev a)).v ρ) (fun x ρ => Wo (itemsOf x) fun t => Qi t ρ) E := i_of rfl
theorem i_b1 {f : B1} : Wp ((sem cl (.b1 f a)).i ρ) Qi E = Wp ((sem cl (.b1 f a)).v ρ) (fun x ρ => Wo (itemsOf x) fun t => Qi t ρ) E := i_of rfl
theorem i_bin {o : BOp} : Wp ((sem cl (.bin o a b)).i ρ) Qi E = Wp ((sem cl (.bin o a b)).v ρ) (fun x ρ => Wo (itemsOf x) fun t => Qi t ρ) E := i_of rfl
theorem i_tup : Wp ((sem cl (.tup l)).i ρ) Qi E = Wp ((sem cl (.tup l)).v ρ) (fun x ρ => Wo (itemsOf x) fun t => Qi t ρ) E := i_of rfl
theorem i_lst : Wp ((sem cl (.lst l)).i ρ) Qi E = Wp ((sem cl (.lst l)).v ρ) (fun x ρ => Wo (itemsOf x) fun t => Qi t ρ) E := i_of rfl
theorem i_comp {vs : List Nat} {tg : Tg} : Wp ((sem cl (.comp vs tg it c e)).i ρ) Qi E = Wp ((sem cl (.comp vs tg it c e)).v ρ) (fun x ρ => Wo (itemsOf x) fun t => Qi t ρ) E := i_of rfl
theorem i_rng1 : Wp ((sem cl (.rng1 a)).i ρ) Qi E = Wp ((sem cl a).v ρ) (fun x ρ => Wp (rng1P x ρ) Qi E) E := wp_bind
theorem i_rng2 : Wp ((sem cl (.rng2 a b)).i ρ) Qi E = Wp ((sem cl a).v ρ) (fun x ρ => Wp ((sem cl b).v ρ) (fun y ρ => Wp (rng2P x y ρ) Qi E) E) E := by
  show Wp (R.bind _ _) Qi E = _
  rw [wp_bind]; congr; funext x ρ; rw [wp_bind]
theorem i_rng3 {s : Int} : Wp ((sem cl (.rng3 a b s)).i ρ) Qi E = Wp ((sem cl a).v ρ) (fun x ρ => Wp ((sem cl b).v ρ) (fun y ρ => Wp (rng3P s x y ρ) Qi E) E) E := by
  show Wp (R.bind _ _) Qi E = _
  rw [wp_bind]; congr; funext x ρ; rw [wp_bind]
theorem i_enum : Wp ((sem cl (.enum a)).i ρ) Qi E = Wp ((sem cl a).v ρ) (fun x ρ => Wo (itemsL x) fun xs => Qi (enumL 0 xs) ρ) E := by
  show Wp (R.bind _ _) Qi E = _
  rw [wp_bind]; congr; funext x ρ; rw [wp_of, wo_map]
theorem i_zip : Wp ((sem cl (.zip a b)).i ρ) Qi E = Wp ((sem cl a).v ρ) (fun x ρ => Wp ((sem cl b).v ρ) (fun y ρ => Wo (zipP x y) fun xs => Qi xs ρ) E) E := by
  show Wp (R.bind _ _) Qi E = _
  rw [wp_bind]; congr; funext x ρ; rw [wp_bind]; congr; funext y ρ; rw [wp_of]
theorem w_rng1 {n : Int} : Wp (rng1P (.int n) ρ) Qi E = if small62 n then Qi (rngL 0 n.toNat 1) ρ else False := by
  show Wp (if _ then _ else _) Qi E = _
  rw [wp_if]; rfl
theorem w_rng2 {i j : Int} : Wp (rng2P (.int i) (.int j) ρ) Qi E = if small62 i && small62 j then Qi (rngL i (j - i).toNat 1) ρ else False := by
  show Wp (if _ then _ else _) Qi E = _
  rw [wp_if]; rfl
end
end Pu
end

section
set_option Elab.async false
set_option linter.all false
set_option maxRecDepth 100000
namespace Pu
section
variable {cl : Nat → Option (List PV) → List PV → Outc} {fuel : Nat} {Q : Fl → Sl → Prop} {E : Nat → List PV → Sl → Prop} {ρ : Sl} {a b c e k it : PX} {p q : PS'}
def Wpass (Q : Fl → Sl → Prop) (k : Sl → Prop) : Fl → Sl → Prop := fun f ρ => match f with
  | .nx => k ρ
  | .brk => Q .brk ρ
  | .ret v => Q (.ret v) ρ
def Wput (i : Nat) (s : Option Slot) (ρ : Sl) (Q : Sl → Prop) : Prop := Wo s fun s => if i < ρ.length then Q (ρ.set i s) else False
theorem w_put {i : Nat} {s : Option Slot} : Wp (putS i s ρ) Q E = Wput i s ρ (Q .nx) := by
  unfold putS Wput
  cases s with
  | none => rfl
  | some s => exact wp_if
theorem s_skip : Wp (denS cl fuel .skip ρ) Q E = Q .nx ρ := rfl
theorem s_seq : Wp (denS cl fuel (.seq p q) ρ) Q E = Wp (denS cl fuel p ρ) (Wpass Q fun ρ => Wp (denS cl fuel q ρ) Q E) E := by
  show Wp (R.bind _ _) Q E = _
  rw [wp_bind]; congr; funext f ρ; cases f <;> rfl
theorem s_set {tg : Tg} : Wp (denS cl fuel (.set tg e) ρ) Q E = Wp ((sem cl e).v ρ) (fun x ρ => Wo (assignT tg x ρ) fun ρ => Q .nx ρ) E := by
  show Wp (R.bind _ _) Q E = _
  rw [wp_bind]; congr; funext x ρ
  cases assignT tg x ρ <;> rfl
theorem s_own {i : Nat} : Wp (denS cl fuel (.own i e) ρ) Q E = Wp ((sem cl e).v ρ) (fun x ρ => Wput i (ownOf x) ρ (Q .nx)) E := by
  show Wp (R.bind _ _) Q E = _
  rw [wp_bind]; congr; funext x ρ; rw [w_put]
theorem s_par2 {f1 f2 : Bool} {i j : Nat} : Wp (denS cl fuel (.par2 f1 i a f2 j b) ρ) Q E = Wp ((sem cl a).v ρ) (fun x ρ => Wp ((sem cl b).v ρ) (fun y ρ => Wput i (sl2 f1 x) ρ fun ρ => Wput j (sl2 f2 y) ρ (Q .nx)) E) E := by
  show Wp (R.bind _ _) Q E = _
  rw [wp_bind]; congr; funext x ρ; rw [wp_bind]; congr; funext y ρ; rw [wp_bind, w_put]; congr; funext ρ; rw [w_put]
theorem s_par3 {i j l : Nat} : Wp (denS cl fuel (.par3 i a j b l c) ρ) Q E = Wp ((sem cl a).v ρ) (fun x ρ => Wp ((sem cl b).v ρ) (fun y ρ => Wp ((sem cl c).v ρ) (fun z ρ => Wput i (some (.val x)) ρ fun ρ => Wput j (some (.val y)) ρ fun ρ => Wput l (some (.val z)) ρ (Q .nx)) E) E) E := by
  show Wp (R.bind _ _) Q E = _
  rw [wp_bind]; congr; funext x ρ; rw [wp_bind]; congr; funext y ρ; rw [wp_bind]; congr; funext z ρ; rw [wp_bind, w_put]; congr; funext ρ; rw [wp_bind, w_put]; congr; funext ρ; rw [w_put]
theorem s_setIx {i : Nat} : Wp (denS cl fuel (.setIx i k e) ρ) Q E = Wp ((sem cl e).v ρ) (fun v ρ => if (peek i ρ).isSome then Wp ((sem cl k).v ρ) (fun k ρ => Wp (setIxP i v k ρ) Q E) E else False) E := by
  show Wp (R.bind _ _) Q E = _
  rw [wp_bind]; congr; funext v ρ; rw [wp_if, wp_bind]; rfl
theorem s_aug {i : Nat} {o : BOp} : Wp (denS cl fuel (.aug i o e) ρ) Q E = Wpk i ρ fun x => Wp ((sem cl e).v ρ) (fun y ρ => Wp (augP i o x y ρ) Q E) E := by
  show Wp (match peek i ρ with | some x => ((sem cl e).v ρ).bind fun y ρ => augP i o x y ρ | none => .stuck) Q E = _
  unfold Wpk
  cases peek i ρ with
  | none => rfl
  | some x => exact wp_bind
theorem s_app {i : Nat} : Wp (denS cl fuel (.app i e) ρ) Q E = if isOwnL i ρ then Wp ((sem cl e).v ρ) (fun v ρ => Wp (appP i v ρ) Q E) E else False := by
  show Wp (if _ then R.bind _ _ else _) Q E = _
  rw [wp_if, wp_bind]; rfl
theorem s_ext {i : Nat} : Wp (denS cl fuel (.ext i e) ρ) Q E = if isOwnL i ρ then Wp ((sem cl e).v ρ) (fun v ρ => Wp (extP i v ρ) Q E) E else False := by
  show Wp (if _ then R.bind _ _ else _) Q E = _
  rw [wp_if, wp_bind]; rfl
theorem s_expr : Wp (denS cl fuel (.expr e) ρ) Q E = Wp ((sem cl e).v ρ) (fun _ ρ => Q .nx ρ) E := wp_bind
theorem s_ite : Wp (denS cl fuel (.ite c p q) ρ) Q E = Wp ((sem cl c).t ρ) (fun t ρ => if t then Wp (denS cl fuel p ρ) Q E else Wp (denS cl fuel q ρ) Q E) E := by
  show Wp (R.bind _ _) Q E = _
  rw [wp_bind]; congr; funext t ρ; rw [wp_if]
theorem s_for {tg : Tg} : Wp (denS cl fuel (.for_ tg it p) ρ) Q E = Wp ((sem cl it).i ρ) (fun xs ρ => Wp (forLoop (assignT tg) (denS cl fuel p) xs ρ) Q E) E := wp_bind
theorem s_while : Wp (denS cl fuel (.while_ c p) ρ) Q E = Wp (whileLoop (denT cl c) (denS cl fuel p) fuel ρ) Q E := rfl
theorem s_ret : Wp (denS cl fuel (.ret e) ρ) Q E = Wp ((sem cl e).v ρ) (fun x ρ => Q (.ret x) ρ) E := wp_bind
theorem s_retN : Wp (denS cl fuel .retN ρ) Q E = Q (.ret .non) ρ := rfl
theorem s_brk : Wp (denS cl fuel .brk ρ) Q E = Q .brk ρ := rfl
theorem s_raise {c : Nat} : Wp (denS cl fuel (.raise c) ρ) Q E = E c [] ρ := rfl
/-! ### loops -/
theorem w_for0 {tg : PV → Sl → Option Sl} {f : Sl → R Fl} : Wp (forLoop tg f [] ρ) Q E = Q .nx ρ := rfl
def Wfl (Q : Fl → Sl → Prop) (k : Sl → Prop) : Fl → Sl → Prop := fun f ρ => match f with
  | .nx => k ρ
  | .brk => Q .nx ρ
  | .ret v => Q (.ret v) ρ
theorem w_forS {tg : PV → Sl → Option Sl} {f : Sl → R Fl} {x : PV} {xs : List PV} : Wp (forLoop tg f (x :: xs) ρ) Q E = Wo (tg x ρ) fun ρ => Wp (f ρ) (Wfl Q fun ρ => Wp (forLoop tg f xs ρ) Q E) E := by
  show Wp (match tg x ρ with | none => _ | some ρ1 => _) Q E = _
  cases tg x ρ with
  | none => rfl
  | some ρ1 =>
    show Wp (R.bind _ _) Q E = _
    rw [wp_bind]
    show _ = Wp (f ρ1) _ E
    congr; funext g ρ; cases g <;> rfl
theorem wfl_nx {k : Sl → Prop} : Wfl Q k .nx ρ = k ρ := rfl
theorem wfl_brk {k : Sl → Prop} : Wfl Q k .brk ρ = Q .nx ρ := rfl
theorem wfl_ret {k : Sl → Prop} {v : PV} : Wfl Q k (.ret v) ρ = Q (.ret v) ρ := rfl
theorem wps_nx {k : Sl → Prop} : Wpass Q k .nx ρ = k ρ := rfl
theorem wps_brk {k : Sl → Prop} : Wpass Q k .brk ρ = Q .brk ρ := rfl
theorem wps_ret {k : Sl → Prop} {v : PV} : Wpass Q k (.ret v) ρ = Q (.ret v) ρ := rfl
/-- a loop, by what holds at each turn -/
theorem w_for {tg : PV → Sl → Option Sl} {f : Sl → R Fl} (I : Nat → Sl → Prop) : ∀ {xs : List PV} {j : Nat} {ρ : Sl}, I j ρ → (∀ i x ρ, xs[i]? = some x → I (j + i) ρ → Wo (tg x ρ) fun ρ => Wp (f ρ) (Wfl Q fun ρ => I (j + i + 1) ρ) E) → (∀ ρ, I (j + xs.length) ρ → Q .nx ρ) → Wp (forLoop tg f xs ρ) Q E
  | [], j, ρ, h0, _, he => he ρ h0
  | x :: xs, j, ρ, h0, hs, he => by
    rw [w_forS]
    have h1 := hs 0 x ρ rfl h0
    cases ht : tg x ρ with
    | none => rw [ht] at h1; exact h1.elim
    | some ρ1 =>
      rw [ht] at h1
      refine Wp.mono (show Wp (f ρ1) (Wfl Q fun ρ => I (j + 0 + 1) ρ) E from h1) (fun g ρ2 h2 => ?_) fun _ _ _ z => z
      cases g with
      | nx =>
        refine w_for I (xs := xs) (j := j + 1) h2 (fun i y ρ hy hi => ?_) fun ρ h => he ρ ?_
        · have := hs (i + 1) y ρ (by simpa using hy) (by rw [show j + (i + 1) = j + 1 + i by omega]; exact hi)
          rw [show j + (i + 1) = j + 1 + i by omega] at this
          exact this
        · rw [List.length_cons, show j + (xs.length + 1) = j + 1 + xs.length by omega]; exact h
      | brk => exact h2
      | ret v => exact h2
theorem w_whileS {c : Sl → R Bool} {f : Sl → R Fl} {n : Nat} : Wp (whileLoop c f (n + 1) ρ) Q E = Wp (c ρ) (fun t ρ => if t then Wp (f ρ) (Wfl Q fun ρ => Wp (whileLoop c f n ρ) Q E) E else Q .nx ρ) E := by
  show Wp (R.bind _ _) Q E = _
  rw [wp_bind]; congr; funext t ρ
  cases t with
  | true =>
    show Wp (R.bind _ _) Q E = Wp (f ρ) _ E
    rw [wp_bind]; congr; funext g ρ; cases g <;> rfl
  | false => rfl
end
/-! ### lists made by running -/
theorem getElem?_wipeS {ρ : Sl} {j : Nat} : ∀ {vs : List Nat}, (wipeS ρ vs)[j]? = if j ∈ vs then (ρ[j]?).map fun _ => Slot.emp else ρ[j]?
  | [] => by simp [wipeS]
  | v :: vs => by
    unfold wipeS
    by_cases e : v = j
    · subst e
      rw [if_pos (by simp), List.getElem?_set, if_pos rfl]
      have hl : (wipeS ρ vs).length = ρ.length := by
        induction vs with
        | nil => rfl
        | cons w ws ih => unfold wipeS; rw [List.length_set, ih]
      rw [hl]
      split
      · rename_i l; rw [List.getElem?_eq_getElem l]; rfl
      · rename_i l; rw [List.getElem?_eq_none (by omega)]; rfl
    · rw [List.getElem?_set_ne e, getElem?_wipeS]
      by_cases m : j ∈ vs
      · rw [if_pos m, if_pos (List.mem_cons_of_mem _ m)]
      · rw [if_neg m, if_neg (fun z => (List.mem_cons.mp z).elim (fun q => e q.symm) m)]
theorem unwipe_self {ρ : Sl} {vs : List Nat} : unwipe (wipeS ρ vs) ρ vs = ρ := by
  have hl : ∀ vs : List Nat, (wipeS ρ vs).length = ρ.length := fun vs => by
    induction vs with
    | nil => rfl
    | cons w ws ih => unfold wipeS; rw [List.length_set, ih]
  have gen : ∀ (vs : List Nat) (ρ' : Sl), ρ'.length = ρ.length → (∀ j, j ∉ vs → ρ'[j]? = ρ[j]?) → unwipe ρ' ρ vs = ρ := fun vs => by
    have ul : ∀ (vs : List Nat) (ρ' : Sl), (unwipe ρ' ρ vs).length = ρ'.length := fun vs ρ' => by
      induction vs with
      | nil => rfl
      | cons w ws ih => unfold unwipe; rw [List.length_set, ih]
    have ug : ∀ (vs : List Nat) (ρ' : Sl), ρ'.length = ρ.length → ∀ j, (unwipe ρ' ρ vs)[j]? = if j ∈ vs then ρ[j]? else ρ'[j]? := fun vs ρ' h j => by
      induction vs with
      | nil => simp [unwipe]
      | cons w ws ih =>
        unfold unwipe
        by_cases e : w = j
        · subst e
          rw [if_pos (by simp), List.getElem?_set, if_pos rfl, ul, h]
          split
          · rename_i l; rw [List.getElem?_eq_getElem l]; rfl
          · rename_i l; rw [List.getElem?_eq_none (by omega)]
        · rw [List.getElem?_set_ne e, ih]
          by_cases m : j ∈ ws
          · rw [if_pos m, if_pos (List.mem_cons_of_mem _ m)]
          · rw [if_neg m, if_neg (fun z => (List.mem_cons.mp z).elim (fun q => e q.symm) m)]
    intro ρ' h k
    refine List.ext_getElem? fun j => ?_
    rw [ug vs ρ' h j]
    split
    · rfl
    · rename_i m; exact k j m
  refine gen vs _ (hl vs) fun j hj => ?_
  rw [getElem?_wipeS, if_neg hj]
/-- a turn of a list: what it gives, nothing else changed -/
def Turn1 (vs : List Nat) (tg : Tg) (c : Sl → R Bool) (e : Sl → R PV) (ρ : Sl) (x : PV) (o : Option PV) : Prop :=
  Wo (assignT tg x (wipeS ρ vs)) fun ρ1 => Wp (c ρ1) (fun t ρ2 => if t then Wp (e ρ2) (fun y ρ3 => o = some y ∧ wipeS ρ3 vs = wipeS ρ vs) (fun _ _ _ => False) else o = none ∧ wipeS ρ2 vs = wipeS ρ vs) (fun _ _ _ => False)
theorem compLoop_ok {vs : List Nat} {tg : Tg} {c : Sl → R Bool} {e : Sl → R PV} {ρ : Sl} {f : PV → Option PV} : ∀ {xs : List PV}, (∀ x ∈ xs, Turn1 vs tg c e ρ x (f x)) → compLoop vs (assignT tg) c e xs (wipeS ρ vs) = .ok (xs.filterMap f) (wipeS ρ vs)
  | [], _ => rfl
  | x :: xs, h => by
    have h1 := h x List.mem_cons_self
    have ih := compLoop_ok (f := f) (xs := xs) fun y hy => h y (List.mem_cons_of_mem _ hy)
    unfold Turn1 at h1
    unfold compLoop
    cases ht : assignT tg x (wipeS ρ vs) with
    | none => rw [ht] at h1; exact h1.elim
    | some ρ1 =>
      rw [ht] at h1
      have h1 : Wp (c ρ1) _ _ := h1
      dsimp only
      cases hc : c ρ1 with
      | ok t ρ2 =>
        rw [hc] at h1
        cases t with
        | true =>
          have h1 : Wp (e ρ2) (fun y ρ3 => f x = some y ∧ wipeS ρ3 vs = wipeS ρ vs) (fun _ _ _ => False) := h1
          dsimp only
          cases he : e ρ2 with
          | ok y ρ3 =>
            rw [he] at h1
            obtain ⟨e1, e2⟩ : f x = some y ∧ wipeS ρ3 vs = wipeS ρ vs := h1
            dsimp only
            rw [e2, ih, List.filterMap_cons, e1]
            rfl
          | exc _ _ _ => rw [he] at h1; exact h1.elim
          | stuck => rw [he] at h1; exact h1.elim
        | false =>
          obtain ⟨e1, e2⟩ : f x = none ∧ wipeS ρ2 vs = wipeS ρ vs := h1
          dsimp only
          rw [e2, ih, List.filterMap_cons, e1]
      | exc _ _ _ => rw [hc] at h1; exact h1.elim
      | stuck => rw [hc] at h1; exact h1.elim
/-- a list made by running that changes nothing -/
theorem w_comp {vs : List Nat} {tg : Tg} {c : Sl → R Bool} {e : Sl → R PV} {ρ : Sl} {xs : List PV} {Q : PV → Sl → Prop} {E : Nat → List PV → Sl → Prop} (f : PV → Option PV) (hz : xs.length ≤ big) (h : ∀ x ∈ xs, Turn1 vs tg c e ρ x (f x)) (q : Q (.lst (xs.filterMap f)) ρ) : Wp (compP vs tg c e xs ρ) Q E := by
  unfold compP
  rw [if_pos hz, compLoop_ok h]
  show Q (.lst (xs.filterMap f)) (unwipe (wipeS ρ vs) ρ vs)
  rw [unwipe_self]; exact q
theorem w_finish {r : R Fl} {Q : PV → List PV → Prop} {E : Nat → List PV → List PV → Prop} : Wc (finish false r) Q E = Wp r (fun f _ => match f with | .nx => Q .non [] | .ret v => Q v [] | .brk => False) fun c vs _ => E c vs [] := by
  cases r with
  | ok f ρ => cases f <;> rfl
  | exc c vs ρ => rfl
  | stuck => rfl
def Wend (ρ : Sl) (k : List PV → Prop) : Prop := match ρ[(0 : Nat)]? with
  | some (.own xs) => k xs
  | _ => False
theorem w_finishIO {r : R Fl} {Q : PV → List PV → Prop} {E : Nat → List PV → List PV → Prop} : Wc (finish true r) Q E = Wp r (fun f ρ => match f with | .nx => Wend ρ fun io => Q .non io | .ret v => Wend ρ fun io => Q v io | .brk => False) fun c vs ρ => Wend ρ fun io => E c vs io := by
  have key : ∀ (ρ : Sl) (g : List PV → Outc), Wc (match ioOf true ρ with | some xs => g xs | none => .stuck) Q E = Wend ρ fun xs => Wc (g xs) Q E := fun ρ g => by
    unfold ioOf Wend
    rw [if_pos rfl]
    cases ρ[(0 : Nat)]? with
    | none => rfl
    | some s => cases s <;> rfl
  cases r with
  | ok f ρ =>
    cases f with
    | nx => exact key ρ fun xs => .val .non xs
    | ret v => exact key ρ fun xs => .val v xs
    | brk => rfl
  | exc c vs ρ => exact key ρ fun xs => .exc c vs xs
  | stuck => rfl
theorem run_succ {tb : List PFn} {fuel n f : Nat} {fn : PFn} {o : Option (List PV)} {ps : List PV} (hf : tb[f]? = some fn) (hfit : fits fn o ps = true) : run tb fuel (n + 1) f o ps = finish fn.io (denS (run tb fuel n) fuel fn.body (start fn.ns o ps)) := by
  rw [run, hf]
  show (if fits fn o ps = true then _ else _) = _
  rw [if_pos hfit]
/-- what is known of an outcome -/
theorem wc_val {o : Outc} {v : PV} {io : List PV} (h : Wc o (fun w jo => w = v ∧ jo = io) fun _ _ _ => False) : o = .val v io := by
  cases o with
  | val w jo => obtain ⟨rfl, rfl⟩ := h; rfl
  | exc _ _ _ => exact h.elim
  | stuck => exact h.elim
end Pu
end

section
set_option Elab.async false
set_option linter.all false
set_option maxRecDepth 100000
namespace Pu
theorem wv_cons {s : Slot} {ρ : Sl} {i : Nat} {Q : PV → Sl → Prop} : Wv i (s :: ρ) Q = Wv i (s :: ρ) Q := rfl
-- operators at given values
theorem bo_add {i j : Int} : binop .add (.int i) (.int j) = some (.int (i + j)) := rfl
theorem bo_sub {i j : Int} : binop .sub (.int i) (.int j) = some (.int (i - j)) := rfl
theorem bo_mul {i j : Int} : binop .mul (.int i) (.int j) = if (-(2 ^ 64) < i ∧ i < 2 ^ 64) ∨ (-(2 ^ 64) < j ∧ j < 2 ^ 64) then some (.int (i * j)) else none := rfl
theorem bo_fdiv {i j : Int} : binop .fdiv (.int i) (.int j) = if 0 < j ∧ j < 1073741824 then some (.int (i / j)) else none := rfl
theorem bo_mod {i j : Int} : binop .mod (.int i) (.int j) = if 0 < j then some (.int (i % j)) else none := rfl
theorem bo_pow {i j : Int} : binop .pow (.int i) (.int j) = if 0 ≤ j ∧ j ≤ 1000000 ∧ i.natAbs < 2 ^ 64 then some (.int (i ^ j.toNat)) else none := rfl
theorem bo_tup {s t : List PV} : binop .add (.tup s) (.tup t) = if s.length + t.length ≤ big then some (.tup (s ++ t)) else none := rfl
theorem bo_lst {s t : List PV} : binop .add (.lst s) (.lst t) = if s.length + t.length ≤ big then some (.lst (s ++ t)) else none := rfl
theorem bo_str {s t : List Nat} : binop .add (.str s) (.str t) = if s.length + t.length ≤ big then some (.str (s ++ t)) else none := rfl
theorem bo_rep {s : List PV} {k : Int} : binop .mul (.lst s) (.int k) = if -(2 ^ 63) ≤ k ∧ k < 2 ^ 63 ∧ s.length * k.toNat ≤ big then some (.lst (List.replicate k.toNat s).flatten) else none := rfl
theorem co_lt {i j : Int} : cmpop .lt (.int i) (.int j) = some (decide (i < j)) := rfl
theorem co_le {i j : Int} : cmpop .le (.int i) (.int j) = some (decide (i ≤ j)) := rfl
theorem co_gt {i j : Int} : cmpop .gt (.int i) (.int j) = some (decide (j < i)) := rfl
theorem co_ge {i j : Int} : cmpop .ge (.int i) (.int j) = some (decide (j ≤ i)) := rfl
theorem co_eqI {i j : Int} : cmpop .eq (.int i) (.int j) = some (i == j) := by show pveq _ _ = _; unfold pveq; rw [if_pos (by simp [PV.eqOk])]; rfl
theorem co_neI {i j : Int} : cmpop .ne (.int i) (.int j) = some (!(i == j)) := by unfold cmpop; dsimp only; unfold pveq; rw [if_pos (by simp [PV.eqOk])]; rfl
theorem co_eqB {i j : Bool} : cmpop .eq (.bl i) (.bl j) = some (i == j) := by show pveq _ _ = _; unfold pveq; rw [if_pos (by simp [PV.eqOk])]; rfl
theorem co_neB {i j : Bool} : cmpop .ne (.bl i) (.bl j) = some (!(i == j)) := by unfold cmpop; dsimp only; unfold pveq; rw [if_pos (by simp [PV.eqOk])]; rfl
theorem co_isN {x : PV} : cmpop .is_ x .non = some x.isNon := rfl
theorem co_notN {x : PV} : cmpop .isnot x .non = some (!x.isNon) := rfl
theorem tr_bl {b : Bool} : truth (.bl b) = some b := rfl
theorem tr_int {b : Int} : truth (.int b) = some (b != 0) := rfl
theorem ix_lst {xs : List PV} {i : Int} : index (.lst xs) (.int i) = at_ xs i := rfl
theorem ix_tup' {xs : List PV} {i : Int} : index (.tup xs) (.int i) = at_ xs i := rfl
theorem at_nat {α : Type} {xs : List α} (k : Nat) : at_ xs (k : Int) = xs[k]? := by
  unfold at_ place
  rw [if_pos (Int.natCast_nonneg k)]
  split
  · rfl
  · rename_i h
    rw [List.getElem?_eq_none (by omega)]; rfl
theorem at0 {α : Type} {xs : List α} : at_ xs 0 = xs[0]? := at_nat 0
theorem at1 {α : Type} {xs : List α} : at_ xs 1 = xs[1]? := at_nat 1
theorem at2 {α : Type} {xs : List α} : at_ xs 2 = xs[2]? := at_nat 2
theorem at3 {α : Type} {xs : List α} : at_ xs 3 = xs[3]? := at_nat 3
theorem at4 {α : Type} {xs : List α} : at_ xs 4 = xs[4]? := at_nat 4
theorem b1_len_l {xs : List PV} : b1 .len (.lst xs) = some (.int xs.length) := rfl
theorem b1_len_t {xs : List PV} : b1 .len (.tup xs) = some (.int xs.length) := rfl
theorem b1_len_s {xs : List PV} : b1 .len (.scr xs) = some (.int xs.length) := rfl
theorem b1_int {i : Int} : b1 .int (.int i) = some (.int i) := rfl
theorem b1_intB {i : Bool} : b1 .int (.bl i) = some (.int (if i then 1 else 0)) := rfl
theorem b1_abs {i : Int} : b1 .abs (.int i) = some (.int (if i < 0 then -i else i)) := rfl
theorem b1_tupT {xs : List PV} : b1 .tuple (.tup xs) = some (.tup xs) := rfl
theorem b1_tupL {xs : List PV} : b1 .tuple (.lst xs) = some (.tup xs) := rfl
theorem b2_min {i j : Int} : b2 .min2 (.int i) (.int j) = some (.int (if j < i then j else i)) := rfl
theorem b2_max {i j : Int} : b2 .max2 (.int i) (.int j) = some (.int (if j > i then j else i)) := rfl
theorem pl_nat {n k : Nat} (h : k < n) : place n (k : Int) = some k := by
  unfold place
  rw [if_pos (Int.natCast_nonneg k), if_pos (by omega)]; rfl
theorem pl0 {n : Nat} : place (n + 1) 0 = some 0 := pl_nat (k := 0) (by omega)
theorem pl1 {n : Nat} : place (n + 2) 1 = some 1 := pl_nat (k := 1) (by omega)
theorem pl2 {n : Nat} : place (n + 3) 2 = some 2 := pl_nat (k := 2) (by omega)
theorem pl3 {n : Nat} : place (n + 4) 3 = some 3 := pl_nat (k := 3) (by omega)
theorem pl4 {n : Nat} : place (n + 5) 4 = some 4 := pl_nat (k := 4) (by omega)
section
variable {cl : Nat → Option (List PV) → List PV → Outc} {fuel : Nat} {Q : Fl → Sl → Prop} {E : Nat → List PV → Sl → Prop} {ρ : Sl} {p q : PS'}
theorem s_cut {I : Sl → Prop} (h1 : Wp (denS cl fuel p ρ) (Wpass Q I) E) (h2 : ∀ ρ, I ρ → Wp (denS cl fuel q ρ) Q E) : Wp (denS cl fuel (.seq p q) ρ) Q E := by
  rw [s_seq]
  refine Wp.mono h1 (fun f ρ h => ?_) fun _ _ _ z => z
  cases f with
  | nx => exact h2 ρ h
  | brk => exact h
  | ret v => exact h
/-- o[i] = v of an own list -/
theorem w_setIxL {i : Nat} {v : PV} {n : Int} {xs : List PV} (h : ρ[i]? = some (.own xs)) : Wp (setIxP i v (.int n) ρ) Q E = Wo (place xs.length n) fun j => Q .nx (ρ.set i (.own (xs.set j v))) := by
  unfold setIxP
  rw [h]
  dsimp only
  cases place xs.length n <;> rfl
end
theorem c_nil {s : SM} {ρ : Sl} {Q : Bool → Sl → Prop} {E : Nat → List PV → Sl → Prop} : Wp (cOf .nil s ρ) Q E = Q true ρ := rfl
theorem c_cmp {o : COp} {a b : PX} {s : SM} {ρ : Sl} {Q : Bool → Sl → Prop} {E : Nat → List PV → Sl → Prop} : Wp (cOf (.cmp o a b) s ρ) Q E = Wp (s.t ρ) Q E := rfl
theorem c_chain {o o' : COp} {a b c : PX} {s : SM} {ρ : Sl} {Q : Bool → Sl → Prop} {E : Nat → List PV → Sl → Prop} : Wp (cOf (.chain o o' a b c) s ρ) Q E = Wp (s.t ρ) Q E := rfl
theorem c_and {a b : PX} {s : SM} {ρ : Sl} {Q : Bool → Sl → Prop} {E : Nat → List PV → Sl → Prop} : Wp (cOf (.and a b) s ρ) Q E = Wp (s.t ρ) Q E := rfl
theorem c_or {a b : PX} {s : SM} {ρ : Sl} {Q : Bool → Sl → Prop} {E : Nat → List PV → Sl → Prop} : Wp (cOf (.or a b) s ρ) Q E = Wp (s.t ρ) Q E := rfl
theorem c_not {a : PX} {s : SM} {ρ : Sl} {Q : Bool → Sl → Prop} {E : Nat → List PV → Sl → Prop} : Wp (cOf (.not a) s ρ) Q E = Wp (s.t ρ) Q E := rfl
theorem c_one {a : PX} {s : SM} {ρ : Sl} {Q : Bool → Sl → Prop} {E : Nat → List PV → Sl → Prop} : Wp (cOf (.one a) s ρ) Q E = Wp (s.t ρ) Q E := rfl
theorem c_inS {n : Bool} {a : PX} {i : Nat} {s : SM} {ρ : Sl} {Q : Bool → Sl → Prop} {E : Nat → List PV → Sl → Prop} : Wp (cOf (.inS n a i) s ρ) Q E = Wp (s.t ρ) Q E := rfl
theorem c_isi {a : PX} {t : TyN} {s : SM} {ρ : Sl} {Q : Bool → Sl → Prop} {E : Nat → List PV → Sl → Prop} : Wp (cOf (.isi a t) s ρ) Q E = Wp (s.t ρ) Q E := rfl
theorem c_b1 {f : B1} {a : PX} {s : SM} {ρ : Sl} {Q : Bool → Sl → Prop} {E : Nat → List PV → Sl → Prop} : Wp (cOf (.b1 f a) s ρ) Q E = Wp (s.t ρ) Q E := rfl
theorem c_call {f : Nat} {l : PX} {s : SM} {ρ : Sl} {Q : Bool → Sl → Prop} {E : Nat → List PV → Sl → Prop} : Wp (cOf (.call f l) s ρ) Q E = Wp (s.t ρ) Q E := rfl
theorem c_callIO {f i : Nat} {l : PX} {s : SM} {ρ : Sl} {Q : Bool → Sl → Prop} {E : Nat → List PV → Sl → Prop} : Wp (cOf (.callIO f i l) s ρ) Q E = Wp (s.t ρ) Q E := rfl
theorem c_ix {a b : PX} {s : SM} {ρ : Sl} {Q : Bool → Sl → Prop} {E : Nat → List PV → Sl → Prop} : Wp (cOf (.ix a b) s ρ) Q E = Wp (s.t ρ) Q E := rfl
theorem c_ixS {i : Nat} {b : PX} {s : SM} {ρ : Sl} {Q : Bool → Sl → Prop} {E : Nat → List PV → Sl → Prop} : Wp (cOf (.ixS i b) s ρ) Q E = Wp (s.t ρ) Q E := rfl
theorem c_var {i : Nat} {s : SM} {ρ : Sl} {Q : Bool → Sl → Prop} {E : Nat → List PV → Sl → Prop} : Wp (cOf (.var i) s ρ) Q E = Wp (s.t ρ) Q E := rfl
theorem o_k {c : PV} {cl : Nat → Option (List PV) → List PV → Outc} {ρ : Sl} {Q : Option Int → Sl → Prop} {E : Nat → List PV → Sl → Prop} : Wp (oOf (.k c) (sem cl (.k c)) ρ) Q E = Wp ((sem cl (.k c)).v ρ) (fun x ρ => Wo (optInt x) fun o => Q o ρ) E := o_some
theorem o_var {i : Nat} {cl : Nat → Option (List PV) → List PV → Outc} {ρ : Sl} {Q : Option Int → Sl → Prop} {E : Nat → List PV → Sl → Prop} : Wp (oOf (.var i) (sem cl (.var i)) ρ) Q E = Wp ((sem cl (.var i)).v ρ) (fun x ρ => Wo (optInt x) fun o => Q o ρ) E := o_some
theorem o_bin {o : BOp} {a b : PX} {cl : Nat → Option (List PV) → List PV → Outc} {ρ : Sl} {Q : Option Int → Sl → Prop} {E : Nat → List PV → Sl → Prop} : Wp (oOf (.bin o a b) (sem cl (.bin o a b)) ρ) Q E = Wp ((sem cl (.bin o a b)).v ρ) (fun x ρ => Wo (optInt x) fun o => Q o ρ) E := o_some
theorem o_neg {a : PX} {cl : Nat → Option (List PV) → List PV → Outc} {ρ : Sl} {Q : Option Int → Sl → Prop} {E : Nat → List PV → Sl → Prop} : Wp (oOf (.neg a) (sem cl (.neg a)) ρ) Q E = Wp ((sem cl (.neg a)).v ρ) (fun x ρ => Wo (optInt x) fun o => Q o ρ) E := o_some
theorem o_b1 {f : B1} {a : PX} {cl : Nat → Option (List PV) → List PV → Outc} {ρ : Sl} {Q : Option Int → Sl → Prop} {E : Nat → List PV → Sl → Prop} : Wp (oOf (.b1 f a) (sem cl (.b1 f a)) ρ) Q E = Wp ((sem cl (.b1 f a)).v ρ) (fun x ρ => Wo (optInt x) fun o => Q o ρ) E := o_some
theorem o_b2 {f : B2} {a b : PX} {cl : Nat → Option (List PV) → List PV → Outc} {ρ : Sl} {Q : Option Int → Sl → Prop} {E : Nat → List PV → Sl → Prop} : Wp (oOf (.b2 f a b) (sem cl (.b2 f a b)) ρ) Q E = Wp ((sem cl (.b2 f a b)).v ρ) (fun x ρ => Wo (optInt x) fun o => Q o ρ) E := o_some
theorem o_lenS {i : Nat} {cl : Nat → Option (List PV) → List PV → Outc} {ρ : Sl} {Q : Option Int → Sl → Prop} {E : Nat → List PV → Sl → Prop} : Wp (oOf (.lenS i) (sem cl (.lenS i)) ρ) Q E = Wp ((sem cl (.lenS i)).v ρ) (fun x ρ => Wo (optInt x) fun o => Q o ρ) E := o_some
theorem o_ix {a b : PX} {cl : Nat → Option (List PV) → List PV → Outc} {ρ : Sl} {Q : Option Int → Sl → Prop} {E : Nat → List PV → Sl → Prop} : Wp (oOf (.ix a b) (sem cl (.ix a b)) ρ) Q E = Wp ((sem cl (.ix a b)).v ρ) (fun x ρ => Wo (optInt x) fun o => Q o ρ) E := o_some
theorem o_ixS {i : Nat} {b : PX} {cl : Nat → Option (List PV) → List PV → Outc} {ρ : Sl} {Q : Option Int → Sl → Prop} {E : Nat → List PV → Sl → Prop} : Wp (oOf (.ixS i b) (sem cl (.ixS i b)) ρ) Q E = Wp ((sem cl (.ixS i b)).v ρ) (fun x ρ => Wo (optInt x) fun o => Q o ρ) E := o_some
theorem o_call {f : Nat} {l : PX} {cl : Nat → Option (List PV) → List PV → Outc} {ρ : Sl} {Q : Option Int → Sl → Prop} {E : Nat → List PV → Sl → Prop} : Wp (oOf (.call f l) (sem cl (.call f l)) ρ) Q E = Wp ((sem cl (.call f l)).v ρ) (fun x ρ => Wo (optInt x) fun o => Q o ρ) E := o_some
theorem o_m1 {f : M1} {a b : PX} {cl : Nat → Option (List PV) → List PV → Outc} {ρ : Sl} {Q : Option Int → Sl → Prop} {E : Nat → List PV → Sl → Prop} : Wp (oOf (.m1 f a b) (sem cl (.m1 f a b)) ρ) Q E = Wp ((sem cl (.m1 f a b)).v ρ) (fun x ρ => Wo (optInt x) fun o => Q o ρ) E := o_some
theorem wc_v {v : PV} {io : List PV} {Q : PV → List PV → Prop} {E : Nat → List PV → List PV → Prop} : Wc (.val v io) Q E = Q v io := rfl
theorem wc_e {c : Nat} {vs io : List PV} {Q : PV → List PV → Prop} {E : Nat → List PV → List PV → Prop} : Wc (.exc c vs io) Q E = E c vs io := rfl
theorem st_nx {n : Nat} {ps : List PV} : start n none ps = ps.map .val ++ List.replicate (n - ps.length) .emp := rfl
theorem st_io {n : Nat} {xs ps : List PV} : start n (some xs) ps = .own xs :: (ps.map .val ++ List.replicate (n - 1 - ps.length) .emp) := rfl
end Pu
end
local macro_rules | `(tactic| array_get_dec) => `(tactic| simp only [↓Pu.wp_ok, ↓Pu.wp_exc, ↓Pu.wp_stuck, ↓Pu.wp_of, ↓Pu.wp_if, ↓Pu.wo_some, ↓Pu.wo_none, ↓Pu.wo_if, ↓Pu.wo_map, ↓Pu.wo_bind, ↓Pu.v_k, ↓Pu.v_var, ↓Pu.v_bin, ↓Pu.v_neg, ↓Pu.v_not, ↓Pu.v_one, ↓Pu.v_and, ↓Pu.v_or, ↓Pu.w_andT, ↓Pu.w_orT, ↓Pu.v_ife, ↓Pu.v_cmp, ↓Pu.t_cmp, ↓Pu.t_chain, ↓Pu.v_chain, ↓Pu.v_inS, ↓Pu.t_inS, ↓Pu.v_nil, ↓Pu.v_cons, ↓Pu.w_cons, ↓Pu.v_tup, ↓Pu.v_lst, ↓Pu.v_ix, ↓Pu.v_ixS, ↓Pu.v_sl, ↓Pu.o_nil, ↓Pu.v_rev, ↓Pu.v_b1, ↓Pu.v_b2, ↓Pu.v_lenS, ↓Pu.v_isi, ↓Pu.v_call, ↓Pu.v_callF, ↓Pu.v_callIO, ↓Pu.w_call, ↓Pu.w_callIO, ↓Pu.v_comp, ↓Pu.t_not, ↓Pu.t_one, ↓Pu.t_and, ↓Pu.t_or, ↓Pu.t_ife, ↓Pu.t_k, ↓Pu.t_var, ↓Pu.t_bin, ↓Pu.t_b1, ↓Pu.t_isi, ↓Pu.t_ix, ↓Pu.t_ixS, ↓Pu.t_call, ↓Pu.t_callIO, ↓Pu.t_comp, ↓Pu.i_var, ↓Pu.i_call, ↓Pu.i_sl, ↓Pu.i_ix, ↓Pu.i_rev, ↓Pu.i_b1, ↓Pu.i_bin, ↓Pu.i_tup, ↓Pu.i_lst, ↓Pu.i_comp, ↓Pu.i_rng1, ↓Pu.i_rng2, ↓Pu.i_rng3, ↓Pu.i_enum, ↓Pu.i_zip, ↓Pu.w_rng1, ↓Pu.w_rng2, ↓Pu.s_skip, ↓Pu.s_seq, ↓Pu.s_set, ↓Pu.s_own, ↓Pu.s_par2, ↓Pu.s_par3, ↓Pu.s_setIx, ↓Pu.s_aug, ↓Pu.s_app, ↓Pu.s_ext, ↓Pu.s_expr, ↓Pu.s_ite, ↓Pu.s_for, ↓Pu.s_while, ↓Pu.s_ret, ↓Pu.s_retN, ↓Pu.s_brk, ↓Pu.s_raise, ↓Pu.wps_nx, ↓Pu.wps_brk, ↓Pu.wps_ret, ↓Pu.wfl_nx, ↓Pu.wfl_brk, ↓Pu.wfl_ret, ↓Pu.w_finish, ↓Pu.w_finishIO, ↓Pu.Wend, ↓Pu.Wv, ↓Pu.Wpk, ↓Pu.Wput, ↓Pu.Wio, Pu.peek, Pu.Slot.rd, Pu.isOwnL, Pu.isOwnD, Pu.appP, Pu.extP, Pu.setIxP, Pu.negP, Pu.notP, Pu.tupOk, Pu.lstOk, Pu.ownOf, Pu.sl2, Pu.assignT, Pu.optInt, Pu.itemsOf, Pu.itemsL, Pu.bo_add, Pu.bo_sub, Pu.bo_mul, Pu.bo_fdiv, Pu.bo_mod, Pu.bo_pow, Pu.bo_tup, Pu.bo_lst, Pu.bo_str, Pu.bo_rep, Pu.co_lt, Pu.co_le, Pu.co_gt, Pu.co_ge, Pu.co_eqI, Pu.co_neI, Pu.co_eqB, Pu.co_neB, Pu.co_isN, Pu.co_notN, Pu.tr_bl, Pu.tr_int, Pu.ix_lst, Pu.ix_tup', Pu.pl0, Pu.pl1, Pu.pl2, Pu.pl3, Pu.pl4, Pu.at0, Pu.at1, Pu.at2, Pu.at3, Pu.at4, Pu.b1_len_l, Pu.b1_len_t, Pu.b1_len_s, Pu.b1_int, Pu.b1_intB, Pu.b1_abs, Pu.b1_tupT, Pu.b1_tupL, Pu.b2_min, Pu.b2_max, ↓Pu.c_nil, ↓Pu.c_cmp, ↓Pu.c_chain, ↓Pu.c_and, ↓Pu.c_or, ↓Pu.c_not, ↓Pu.c_one, ↓Pu.c_inS, ↓Pu.c_isi, ↓Pu.c_b1, ↓Pu.c_call, ↓Pu.c_callIO, ↓Pu.c_ix, ↓Pu.c_ixS, ↓Pu.c_var, ↓Pu.o_k, ↓Pu.o_var, ↓Pu.o_bin, ↓Pu.o_neg, ↓Pu.o_b1, ↓Pu.o_b2, ↓Pu.o_lenS, ↓Pu.o_ix, ↓Pu.o_ixS, ↓Pu.o_call, ↓Pu.o_m1, ↓Pu.wc_v, ↓Pu.wc_e, Pu.isTyO, Pu.isTy, Pu.st_nx, Pu.st_io, List.map_cons, List.map_nil, List.cons_append, List.nil_append, List.length_cons, List.length_nil, List.replicate, Nat.sub_self, Nat.add_one_sub_one, Nat.reduceAdd, Nat.reduceSub, Nat.reduceLT, Nat.reduceLeDiff, List.getElem?_cons_zero, List.getElem?_cons_succ, List.set_cons_zero, List.set_cons_succ, Option.isSome_some, Option.bind_some, Option.map_some, if_true, if_false, Bool.false_eq_true, decide_eq_true_eq, Bool.not_eq_true', decide_eq_false_iff_not, Bool.not_true, Bool.not_false, beq_iff_eq, true_and, and_true, Bool.and_eq_true, reduceCtorEq, Pu.PV.isNon])

section
set_option Elab.async false
set_option linter.all false
set_option maxRecDepth 100000
namespace Pu
/-- a list made by running that may change things -/
theorem w_compI {vs : List Nat} {tg : Tg} {c : Sl → R Bool} {e : Sl → R PV} {ρ : Sl} {xs : List PV} {Q : PV → Sl → Prop} {E : Nat → List PV → Sl → Prop} (I : Nat → List PV → Sl → Prop) (hz : xs.length ≤ big) (h0 : I 0 [] (wipeS ρ vs))
    (h : ∀ i x acc ρ, xs[i]? = some x → I i acc ρ → Wo (assignT tg x ρ) fun ρ1 => Wp (c ρ1) (fun t ρ2 => if t then Wp (e ρ2) (fun y ρ3 => I (i + 1) (acc ++ [y]) (wipeS ρ3 vs)) (fun _ _ _ => False) else I (i + 1) acc (wipeS ρ2 vs)) (fun _ _ _ => False))
    (q : ∀ acc ρ', I xs.length acc ρ' → Q (.lst acc) (unwipe ρ' ρ vs)) : Wp (compP vs tg c e xs ρ) Q E := by
  have key : ∀ (ys : List PV) (j : Nat) (acc : List PV) (ρ1 : Sl), j ≤ xs.length → xs.drop j = ys → I j acc ρ1 → ∃ rest ρ2, compLoop vs (assignT tg) c e ys ρ1 = .ok rest ρ2 ∧ I xs.length (acc ++ rest) ρ2 := by
    intro ys
    induction ys with
    | nil =>
      intro j acc ρ1 hle hd hi
      have hj : xs.length ≤ j := List.drop_eq_nil_iff.mp hd
      refine ⟨[], ρ1, rfl, ?_⟩
      rw [List.append_nil]
      have e : j = xs.length := by omega
      rw [← e]; exact hi
    | cons y ys ih =>
      intro j acc ρ1 hle hd hi
      have hlt : j < xs.length := by
        have := congrArg List.length hd
        rw [List.length_drop, List.length_cons] at this
        omega
      have hy : xs[j]? = some y := by
        have := congrArg (fun l : List PV => l[0]?) hd
        simpa [List.getElem?_drop] using this
      have hd' : xs.drop (j + 1) = ys := by
        have := congrArg List.tail hd
        simpa using this
      have h1 := h j y acc ρ1 hy hi
      unfold compLoop
      cases ht : assignT tg y ρ1 with
      | none => rw [ht] at h1; exact h1.elim
      | some ρa =>
        rw [ht] at h1
        have h1 : Wp (c ρa) _ _ := h1
        dsimp only
        cases hc : c ρa with
        | ok t ρb =>
          rw [hc] at h1
          cases t with
          | true =>
            have h1 : Wp (e ρb) (fun y ρ3 => I (j + 1) (acc ++ [y]) (wipeS ρ3 vs)) (fun _ _ _ => False) := h1
            dsimp only
            cases he : e ρb with
            | ok z ρc =>
              rw [he] at h1
              obtain ⟨rest, ρ2, e1, e2⟩ := ih (j + 1) (acc ++ [z]) (wipeS ρc vs) hlt hd' h1
              refine ⟨z :: rest, ρ2, ?_, by simpa using e2⟩
              dsimp only
              rw [e1]; rfl
            | exc _ _ _ => rw [he] at h1; exact h1.elim
            | stuck => rw [he] at h1; exact h1.elim
          | false =>
            have h1 : I (j + 1) acc (wipeS ρb vs) := h1
            exact ih (j + 1) acc (wipeS ρb vs) hlt hd' h1
        | exc _ _ _ => rw [hc] at h1; exact h1.elim
        | stuck => rw [hc] at h1; exact h1.elim
  obtain ⟨rest, ρ2, e1, e2⟩ := key xs 0 [] (wipeS ρ vs) (Nat.zero_le _) rfl h0
  unfold compP
  rw [if_pos hz, e1]
  exact q rest ρ2 (by simpa using e2)
theorem wo_nm {i : Nat} {x : PV} {ρ : Sl} {Q : Sl → Prop} (h : i < ρ.length) : Wo (assignT (.nm i) x ρ) Q = Q (ρ.set i (.val x)) := by
  unfold assignT; rw [if_pos h]; rfl
theorem fm_enc {α : Type} {enc : α → PV} {f : PV → Option PV} {g : α → PV} (h : ∀ x, f (enc x) = some (g x)) : ∀ xs : List α, (xs.map enc).filterMap f = xs.map g
  | [] => rfl
  | x :: xs => by rw [List.map_cons, List.filterMap_cons, h, List.map_cons, fm_enc h xs]
theorem fm_if {α : Type} {enc : α → PV} {f : PV → Option PV} {g : α → PV} {t : α → Bool} (h : ∀ x, f (enc x) = if t x then some (g x) else none) : ∀ xs : List α, (xs.map enc).filterMap f = (xs.filter t).map g
  | [] => rfl
  | x :: xs => by
    rw [List.map_cons, List.filterMap_cons, h, fm_if h xs, List.filter_cons]
    cases t x <;> rfl
theorem bools_map {α : Type} {g : α → Bool} : ∀ xs : List α, boolsOf (xs.map fun x => .bl (g x)) = some (xs.map g)
  | [] => rfl
  | x :: xs => by rw [List.map_cons, boolsOf, bools_map xs]; rfl
theorem all_map {α : Type} {g : α → Bool} {xs : List α} : b1 .all (.lst (xs.map fun x => .bl (g x))) = some (.bl (xs.all g)) := by
  show (boolsOf _).map _ = _
  rw [bools_map, Option.map_some, List.all_map]; rfl
end Pu
end

section
set_option maxRecDepth 100000
namespace Lk61
open PySem PySem.Spec PyProof.Rows L2 PySem.W Pu
/-- is_integer -/
def f0 : PFn := ⟨1, 1, false, false, (.ret (.and (.isi (.var 0) .int) (.one (.not (.isi (.var 0) .bool)))))⟩
/-- is_within -/
def f1 : PFn := ⟨3, 3, false, false, (.ret (.and (.call 0 (.cons (.var 0) .nil)) (.one (.chain .le .le (.var 1) (.var 0) (.var 2)))))⟩
/-- is_sized -/
def f2 : PFn := ⟨3, 3, false, false, (.ret (.and (.isi (.var 0) .tuple) (.one (.chain .le .le (.var 1) (.b1 .len (.var 0)) (.var 2)))))⟩
/-- is_lot -/
def f3 : PFn := ⟨2, 4, false, false, (.seq (.ite (.or (.not (.isi (.var 0) .tuple)) (.one (.not (.b1 .all (.comp [2] (.nm 2) (.var 0) .nil (.call 1 (.cons (.var 2) (.cons (.k (.int 0)) (.cons (.bin .sub (.var 1) (.k (.int 1))) .nil)))))))))
  (.ret (.k (.bl false)))
  .skip)
  (.ret (.b1 .all (.comp [2, 3] (.tp (.cons (.nm 2) (.cons (.nm 3) .nil))) (.zip (.var 0) (.sl (.var 0) (.k (.int 1)) .nil)) .nil (.cmp .lt (.var 2) (.var 3))))))⟩
/-- check_deal -/
def f4 : PFn := ⟨4, 4, false, false, (.seq (.ite (.or (.not (.call 1 (.cons (.var 0) (.cons (.k (.int 1)) (.cons (.k (.int 8)) .nil))))) (.or (.not (.call 1 (.cons (.var 2) (.cons (.k (.int 1)) (.cons (.k (.int 5)) .nil))))) (.one (.not (.call 1 (.cons (.var 1) (.cons (.k (.int 1)) (.cons (.var 2) .nil))))))))
  (.raise 2)
  .skip)
  (.ite (.not (.call 1 (.cons (.var 3) (.cons (.k (.int 1)) (.cons (.k (.int 8)) .nil)))))
  (.raise 2)
  .skip))⟩
/-- lots_of -/
def f5 : PFn := ⟨2, 5, false, false, (.seq (.set (.nm 2) (.lst (.cons (.tup .nil) .nil)))
  (.seq (.for_ (.nm 3) (.rng1 (.var 0))
  (.set (.nm 2) (.bin .add (.var 2) (.comp [4] (.nm 4) (.var 2) (.cmp .lt (.b1 .len (.var 4)) (.var 1)) (.bin .add (.var 4) (.tup (.cons (.var 3) .nil)))))))
  (.ret (.b1 .sorted (.comp [4] (.nm 4) (.var 2) (.cmp .eq (.b1 .len (.var 4)) (.var 1)) (.var 4))))))⟩
/-- can_deal -/
def f6 : PFn := ⟨4, 5, false, false, (.ret (.cmp .ge (.b1 .sum (.comp [4] (.nm 4) (.var 0) .nil (.b2 .min2 (.var 1) (.bin .sub (.var 3) (.var 4))))) (.bin .mul (.var 1) (.var 2))))⟩
/-- dealt -/
def f7 : PFn := ⟨4, 10, false, false, (.seq (.expr (.call 4 (.cons (.var 0) (.cons (.var 1) (.cons (.var 2) (.cons (.var 3) .nil))))))
  (.seq (.ite (.cmp .gt (.bin .mul (.var 0) (.var 1)) (.bin .mul (.var 2) (.b2 .min2 (.var 3) (.var 0))))
  (.ret (.tup (.cons (.k (.str [115, 104, 111, 114, 116])) (.cons (.bin .sub (.bin .mul (.var 0) (.var 1)) (.bin .mul (.var 2) (.b2 .min2 (.var 3) (.var 0)))) .nil))))
  .skip)
  (.seq (.par2 false 4 (.bin .mul (.lst (.cons (.k (.int 0)) .nil)) (.var 2)) false 5 (.tup .nil))
  (.seq (.while_ (.cmp .lt (.b1 .len (.var 5)) (.var 0))
  (.for_ (.nm 6) (.call 5 (.cons (.var 2) (.cons (.var 1) .nil)))
  (.seq (.set (.nm 7) (.comp [8, 9] (.tp (.cons (.nm 8) (.cons (.nm 9) .nil))) (.enum (.var 4)) .nil (.bin .add (.var 9) (.b1 .int (.cmp .isin (.var 8) (.var 6))))))
  (.ite (.and (.cmp .le (.b1 .max (.var 7)) (.var 3)) (.one (.call 6 (.cons (.var 7) (.cons (.bin .sub (.bin .sub (.var 0) (.b1 .len (.var 5))) (.k (.int 1))) (.cons (.var 1) (.cons (.var 3) .nil)))))))
  (.seq (.par2 false 4 (.var 7) false 5 (.bin .add (.var 5) (.tup (.cons (.var 6) .nil))))
  .brk)
  .skip))))
  (.ret (.tup (.cons (.k (.str [100, 101, 97, 108])) (.cons (.var 5) .nil))))))))⟩
/-- pairs_met -/
def f8 : PFn := ⟨2, 6, false, false, (.seq (.ite (.not (.call 1 (.cons (.var 0) (.cons (.k (.int 1)) (.cons (.k (.int 5)) .nil)))))
  (.raise 2)
  .skip)
  (.seq (.ite (.or (.not (.call 2 (.cons (.var 1) (.cons (.k (.int 0)) (.cons (.k (.int 8)) .nil))))) (.one (.not (.b1 .all (.comp [5] (.nm 5) (.var 1) .nil (.call 3 (.cons (.var 5) (.cons (.var 0) .nil))))))))
  (.raise 1)
  .skip)
  (.seq (.own 2 (.lst .nil))
  (.seq (.for_ (.nm 3) (.rng1 (.var 0))
  (.ext 2 (.comp [4] (.nm 4) (.rng2 (.bin .add (.var 3) (.k (.int 1))) (.var 0)) .nil (.b1 .len (.comp [5] (.nm 5) (.var 1) (.and (.cmp .isin (.var 3) (.var 5)) (.one (.cmp .isin (.var 4) (.var 5)))) (.k (.int 1)))))))
  (.ret (.b1 .tuple (.var 2)))))))⟩
/-- _law_hand -/
def f9 : PFn := ⟨1, 3, false, true, (.seq (.set (.nm 1) (.comp [2] (.nm 2) (.sl (.var 0) .nil (.k (.int 63))) .nil (.b1 .abs (.b1 .int (.var 2)))))
  (.ret (.lst (.cons (.var 1) (.cons (.k (.int 0)) (.cons (.k (.int 0)) (.cons (.bin .add (.k (.int 83)) (.bin .mul (.k (.int 5)) (.b1 .len (.var 1)))) (.cons (.k (.int 0)) .nil))))))))⟩
/-- _law_draw -/
def f10 : PFn := ⟨2, 5, true, false, (.seq (.ite (.and (.cmp .eq (.ixS 0 (.k (.int 2))) (.k (.int 0))) (.one (.cmp .lt (.ixS 0 (.k (.int 1))) (.b1 .len (.ixS 0 (.k (.int 0)))))))
  (.seq (.set (.nm 3) (.ix (.ixS 0 (.k (.int 0))) (.ixS 0 (.k (.int 1)))))
  (.seq (.setIx 0 (.k (.int 1)) (.bin .add (.ixS 0 (.k (.int 1))) (.k (.int 1))))
  (.seq (.setIx 0 (.k (.int 3)) (.bin .mod (.b1 .int (.bin .add (.bin .add (.bin .mul (.ixS 0 (.k (.int 3))) (.k (.int 48271))) (.bin .mul (.var 3) (.k (.int 5)))) (.k (.int 29)))) (.k (.int 2147483587))))
  (.setIx 0 (.k (.int 2)) (.ife (.cmp .ge (.var 3) (.bin .pow (.k (.int 10)) (.k (.int 18)))) (.var 3) (.k (.int 0)))))))
  .skip)
  (.seq (.ite (.cmp .gt (.ixS 0 (.k (.int 2))) (.k (.int 0)))
  (.seq (.set (.nm 4) (.bin .mod (.b1 .int (.ixS 0 (.k (.int 2)))) (.var 1)))
  (.seq (.setIx 0 (.k (.int 2)) (.bin .fdiv (.ixS 0 (.k (.int 2))) (.var 1)))
  (.ret (.var 4))))
  .skip)
  (.seq (.setIx 0 (.k (.int 4)) (.bin .add (.ixS 0 (.k (.int 4))) (.k (.int 1))))
  (.seq (.set (.nm 2) (.bin .mod (.b1 .int (.bin .mul (.b1 .int (.bin .add (.ixS 0 (.k (.int 3))) (.bin .mul (.k (.int 7877)) (.ixS 0 (.k (.int 4)))))) (.k (.int 69621)))) (.k (.int 2147483647))))
  (.seq (.set (.nm 2) (.bin .mod (.b1 .int (.bin .mul (.var 2) (.bin .add (.bin .fdiv (.var 2) (.k (.int 1103))) (.k (.int 40692))))) (.k (.int 2147483399))))
  (.seq (.set (.nm 2) (.bin .mod (.b1 .int (.bin .mul (.var 2) (.bin .add (.bin .fdiv (.var 2) (.k (.int 2311))) (.k (.int 48271))))) (.k (.int 2147483629))))
  (.ret (.bin .mod (.b1 .int (.bin .fdiv (.var 2) (.k (.int 16)))) (.var 1)))))))))⟩
/-- _law_lots -/
def f11 : PFn := ⟨2, 5, false, false, (.seq (.set (.nm 2) (.lst (.cons (.tup .nil) .nil)))
  (.seq (.for_ (.nm 3) (.rng1 (.var 0))
  (.set (.nm 2) (.bin .add (.var 2) (.comp [4] (.nm 4) (.var 2) (.cmp .lt (.b1 .len (.var 4)) (.var 1)) (.bin .add (.var 4) (.tup (.cons (.var 3) .nil)))))))
  (.ret (.b1 .sorted (.comp [4] (.nm 4) (.var 2) (.cmp .eq (.b1 .len (.var 4)) (.var 1)) (.var 4))))))⟩
/-- _law_deals -/
def f12 : PFn := ⟨4, 11, false, false, (.seq (.set (.nm 4) (.lst (.cons (.tup .nil) .nil)))
  (.seq (.for_ (.nm 5) (.rng1 (.var 0))
  (.seq (.own 6 (.lst .nil))
  (.seq (.for_ (.nm 7) (.var 4)
  (.for_ (.nm 8) (.call 11 (.cons (.var 2) (.cons (.var 1) .nil)))
  (.ite (.b1 .all (.comp [9] (.nm 9) (.var 8) .nil (.cmp .lt (.b1 .len (.comp [10] (.nm 10) (.var 7) (.cmp .isin (.var 9) (.var 10)) (.k (.int 1)))) (.var 3))))
  (.app 6 (.bin .add (.var 7) (.tup (.cons (.var 8) .nil))))
  .skip)))
  (.set (.nm 4) (.var 6)))))
  (.ret (.ife (.cmp .ne (.var 4) (.lst .nil)) (.ix (.var 4) (.k (.int 0))) (.k .non)))))⟩
/-- law -/
def f13 : PFn := ⟨1, 17, false, false, (.seq (.own 1 (.callF 9 (.cons (.var 0) .nil)))
  (.seq (.ite (.cmp .ne (.b1 .tuple (.call 7 (.cons (.k (.int 2)) (.cons (.k (.int 1)) (.cons (.k (.int 2)) (.cons (.k (.int 1)) .nil)))))) (.tup (.cons (.k (.str [100, 101, 97, 108])) (.cons (.tup (.cons (.tup (.cons (.k (.int 0)) .nil)) (.cons (.tup (.cons (.k (.int 1)) .nil)) .nil))) .nil))))
  (.ret (.k (.bl false)))
  .skip)
  (.seq (.ite (.cmp .ne (.b1 .tuple (.call 7 (.cons (.k (.int 3)) (.cons (.k (.int 2)) (.cons (.k (.int 2)) (.cons (.k (.int 2)) .nil)))))) (.tup (.cons (.k (.str [115, 104, 111, 114, 116])) (.cons (.k (.int 2)) .nil))))
  (.ret (.k (.bl false)))
  .skip)
  (.seq (.ite (.cmp .ne (.b1 .tuple (.call 7 (.cons (.k (.int 1)) (.cons (.k (.int 1)) (.cons (.k (.int 1)) (.cons (.k (.int 8)) .nil)))))) (.tup (.cons (.k (.str [100, 101, 97, 108])) (.cons (.tup (.cons (.tup (.cons (.k (.int 0)) .nil)) .nil)) .nil))))
  (.ret (.k (.bl false)))
  .skip)
  (.seq (.ite (.cmp .ne (.b1 .tuple (.call 8 (.cons (.k (.int 3)) (.cons (.tup (.cons (.tup (.cons (.k (.int 0)) (.cons (.k (.int 1)) .nil))) (.cons (.tup (.cons (.k (.int 0)) (.cons (.k (.int 1)) (.cons (.k (.int 2)) .nil)))) .nil))) .nil)))) (.tup (.cons (.k (.int 2)) (.cons (.k (.int 1)) (.cons (.k (.int 1)) .nil)))))
  (.ret (.k (.bl false)))
  .skip)
  (.seq (.for_ (.nm 2) (.rng1 (.k (.int 4)))
  (.seq (.set (.tp (.cons (.nm 8) (.cons (.nm 9) (.cons (.nm 10) .nil)))) (.tup (.cons (.bin .add (.k (.int 1)) (.callIO 10 1 (.cons (.k (.int 4)) .nil))) (.cons (.bin .add (.k (.int 1)) (.callIO 10 1 (.cons (.k (.int 4)) .nil))) (.cons (.bin .add (.k (.int 1)) (.callIO 10 1 (.cons (.k (.int 5)) .nil))) .nil)))))
  (.seq (.set (.nm 3) (.bin .add (.k (.int 1)) (.callIO 10 1 (.cons (.var 9) .nil))))
  (.seq (.set (.nm 4) (.bin .sub (.bin .mul (.var 8) (.var 3)) (.bin .mul (.var 9) (.b2 .min2 (.var 10) (.var 8)))))
  (.seq (.par2 false 11 (.call 12 (.cons (.var 8) (.cons (.var 3) (.cons (.var 9) (.cons (.var 10) .nil))))) false 12 (.b1 .tuple (.call 7 (.cons (.var 8) (.cons (.var 3) (.cons (.var 9) (.cons (.var 10) .nil)))))))
  (.seq (.ite (.cmp .ne (.cmp .is_ (.var 11) (.k .non)) (.cmp .gt (.var 4) (.k (.int 0))))
  (.ret (.k (.bl false)))
  .skip)
  (.seq (.ite (.cmp .ne (.var 12) (.ife (.cmp .gt (.var 4) (.k (.int 0))) (.tup (.cons (.k (.str [115, 104, 111, 114, 116])) (.cons (.var 4) .nil))) (.tup (.cons (.k (.str [100, 101, 97, 108])) (.cons (.var 11) .nil)))))
  (.ret (.k (.bl false)))
  .skip)
  (.seq (.set (.nm 5) (.b1 .tuple (.comp [13] (.nm 13) (.rng1 (.callIO 10 1 (.cons (.k (.int 9)) .nil))) .nil (.b1 .tuple (.comp [15] (.nm 15) (.rng1 (.var 9)) (.cmp .eq (.callIO 10 1 (.cons (.k (.int 2)) .nil)) (.k (.int 0))) (.var 15))))))
  (.seq (.own 6 (.lst .nil))
  (.seq (.for_ (.nm 7) (.rng1 (.var 9))
  (.ext 6 (.comp [14] (.nm 14) (.rng2 (.bin .add (.var 7) (.k (.int 1))) (.var 9)) .nil (.b1 .len (.comp [16] (.nm 16) (.var 5) (.and (.cmp .isin (.var 7) (.var 16)) (.one (.cmp .isin (.var 14) (.var 16)))) (.k (.int 1)))))))
  (.ite (.cmp .ne (.b1 .tuple (.call 8 (.cons (.var 9) (.cons (.var 5) .nil)))) (.b1 .tuple (.var 6)))
  (.ret (.k (.bl false)))
  .skip)))))))))))
  (.ret (.k (.bl true)))))))))⟩
def tb : List PFn := [f0, f1, f2, f3, f4, f5, f6, f7, f8, f9, f10, f11, f12, f13]
end Lk61
end

section
set_option Elab.async false
set_option linter.all false
set_option maxRecDepth 100000

namespace Lk61
open Pu
theorem r0 {n : Nat} {x : Int} : run tb 1000 (n + 1) 0 none [.int x] = .val (.bl true) [] := by
  apply wc_val
  rw [run_succ (fn := f0) rfl rfl, show f0.io = false from rfl, w_finish]
  unfold f0
  array_get_dec
theorem r1 {n : Nat} {x lo hi : Int} : run tb 1000 (n + 2) 1 none [.int x, .int lo, .int hi] = .val (.bl (decide (lo ≤ x) && decide (x ≤ hi))) [] := by
  apply wc_val
  rw [run_succ (fn := f1) rfl rfl, show f1.io = false from rfl, w_finish]
  unfold f1
  array_get_dec
  rw [r0]
  array_get_dec
  split <;> simp [*]
/-! ### the hand -/
def Hand (xs : List PV) : Prop := ∃ (cells : List Int) (i c s k : Int), xs = [.lst (cells.map .int), .int i, .int c, .int s, .int k] ∧ 0 ≤ i ∧ cells.length ≤ 63
theorem at_cells {cells : List Int} {i : Int} (h0 : 0 ≤ i) (h1 : i < (cells.map PV.int).length) : ∃ c, at_ (cells.map PV.int) i = some (.int c) := by
  obtain ⟨j, rfl⟩ := Int.eq_ofNat_of_zero_le h0
  rw [List.length_map] at h1
  rw [at_nat, List.getElem?_map, List.getElem?_eq_getElem (by omega)]
  exact ⟨_, rfl⟩
theorem hand_run {o : Outc} {m : Int} (h : Wc o (fun v ys => ∃ d, v = .int d ∧ 0 ≤ d ∧ d < m ∧ Hand ys) fun _ _ _ => False) : ∃ d ys, o = .val (.int d) ys ∧ 0 ≤ d ∧ d < m ∧ Hand ys := by
  cases o with
  | val v ys => obtain ⟨d, rfl, h1, h2, h3⟩ := h; exact ⟨d, ys, rfl, h1, h2, h3⟩
  | exc _ _ _ => exact h.elim
  | stuck => exact h.elim
theorem mod_in {a m : Int} (h : 0 < m) : 0 ≤ a % m ∧ a % m < m := ⟨Int.emod_nonneg a (by omega), Int.emod_lt_of_pos a h⟩
theorem r10 {n : Nat} {xs : List PV} {m : Int} (h : Hand xs) (hm : 0 < m) (hm2 : m < 1000) : ∃ d ys, run tb 1000 (n + 1) 10 (some xs) [.int m] = .val (.int d) ys ∧ 0 ≤ d ∧ d < m ∧ Hand ys := by
  obtain ⟨cells, i, c, s, k, rfl, hi, hl⟩ := h
  refine hand_run ?_
  rw [run_succ (fn := f10) rfl rfl, show f10.io = true from rfl, w_finishIO]
  unfold f10
  refine s_cut (I := fun ρ => ∃ i c s k a, ρ = [.own [.lst (cells.map .int), .int i, .int c, .int s, .int k], .val (.int m), .emp, a, .emp] ∧ 0 ≤ i) ?_ ?_
  · array_get_dec
    split
    · split
      · rename_i hlt
        obtain ⟨x, hx⟩ := at_cells hi hlt
        rw [hx]
        array_get_dec
        (repeat (first | rw [if_pos (by first | assumption | decide | omega)] | rw [if_neg (by first | assumption | decide | omega)]))
        split
        · exact ⟨_, _, _, _, _, rfl, by omega⟩
        · exact ⟨_, _, _, _, _, rfl, by omega⟩
      · exact ⟨_, _, _, _, _, rfl, hi⟩
    · exact ⟨_, _, _, _, _, rfl, hi⟩
  clear i c s k hi
  rintro _ ⟨i, c, s, k, a, rfl, hi⟩
  refine s_cut (I := fun ρ => ρ = [.own [.lst (cells.map .int), .int i, .int c, .int s, .int k], .val (.int m), .emp, a, .emp]) ?_ ?_
  · array_get_dec
    split
    · (repeat (first | rw [if_pos (by first | assumption | decide | omega)] | rw [if_neg (by first | assumption | decide | omega)]))
      exact ⟨_, rfl, (mod_in hm).1, (mod_in hm).2, _, _, _, _, _, rfl, hi, hl⟩
    · trivial
  rintro _ rfl
  refine s_cut (I := fun ρ => ∃ k, ρ = [.own [.lst (cells.map .int), .int i, .int c, .int s, .int k], .val (.int m), .emp, a, .emp]) ?_ ?_
  · array_get_dec
    exact ⟨_, rfl⟩
  rintro _ ⟨k, rfl⟩
  refine s_cut (I := fun ρ => ∃ x, ρ = [.own [.lst (cells.map .int), .int i, .int c, .int s, .int k], .val (.int m), .val (.int x), a, .emp] ∧ 0 ≤ x ∧ x < 2147483647) ?_ ?_
  · array_get_dec
    simp
    exact mod_in (by decide)
  rintro _ ⟨x, rfl, hx0, hx1⟩
  refine s_cut (I := fun ρ => ∃ x, ρ = [.own [.lst (cells.map .int), .int i, .int c, .int s, .int k], .val (.int m), .val (.int x), a, .emp] ∧ 0 ≤ x ∧ x < 2147483647) ?_ ?_
  · array_get_dec
    (repeat (first | rw [if_pos (by first | assumption | decide | omega)] | rw [if_neg (by first | assumption | decide | omega)]))
    simp
    have := mod_in (a := x * (x / 1103 + 40692)) (m := 2147483399) (by decide)
    omega
  clear x hx0 hx1
  rintro _ ⟨x, rfl, hx0, hx1⟩
  refine s_cut (I := fun ρ => ∃ x, ρ = [.own [.lst (cells.map .int), .int i, .int c, .int s, .int k], .val (.int m), .val (.int x), a, .emp] ∧ 0 ≤ x ∧ x < 2147483647) ?_ ?_
  · array_get_dec
    (repeat (first | rw [if_pos (by first | assumption | decide | omega)] | rw [if_neg (by first | assumption | decide | omega)]))
    simp
    have := mod_in (a := x * (x / 2311 + 48271)) (m := 2147483629) (by decide)
    omega
  clear x hx0 hx1
  rintro _ ⟨x, rfl, hx0, hx1⟩
  array_get_dec
  (repeat (first | rw [if_pos (by first | assumption | decide | omega)] | rw [if_neg (by first | assumption | decide | omega)]))
  simp
  exact ⟨(mod_in hm).1, (mod_in hm).2, _, _, _, _, _, rfl, hi, hl⟩
end Lk61
end

section
set_option Elab.async false
set_option linter.all false
set_option maxRecDepth 100000
namespace Lk61
open Pu
theorem cut63 {xs : List PV} (h : xs.length ≤ 63) : cut xs none (some 63) = xs := by
  unfold cut clip
  simp
  exact List.take_of_length_le (by omega)
theorem fm_int {f : PV → Option PV} {g : Int → Int} (h : ∀ i, f (.int i) = some (.int (g i))) : ∀ ns : List Int, (ns.map PV.int).filterMap f = (ns.map g).map .int
  | [] => rfl
  | n :: ns => by
    rw [List.map_cons, List.filterMap_cons, h, List.map_cons, List.map_cons, fm_int h ns]
theorem r9 {n : Nat} {ns : List Int} (hl : ns.length ≤ 63) : ∃ xs, run tb 1000 (n + 1) 9 none [.scr (ns.map .int)] = .val (.lst xs) [] ∧ Hand xs := by
  suffices h : Wc (run tb 1000 (n + 1) 9 none [.scr (ns.map .int)]) (fun v io => io = [] ∧ ∃ xs, v = .lst xs ∧ Hand xs) fun _ _ _ => False by
    cases e : run tb 1000 (n + 1) 9 none [.scr (ns.map .int)] with
    | val v io => rw [e] at h; obtain ⟨rfl, xs, rfl, h⟩ := h; exact ⟨xs, rfl, h⟩
    | exc _ _ _ => rw [e] at h; exact h.elim
    | stuck => rw [e] at h; exact h.elim
  rw [run_succ (fn := f9) rfl rfl, show f9.io = false from rfl, w_finish]
  unfold f9
  refine s_cut (I := fun ρ => ∃ cells : List Int, ρ = [.val (.scr (ns.map .int)), .val (.lst (cells.map .int)), .emp] ∧ cells.length ≤ 63) ?_ ?_
  · rw [s_set, v_comp, i_sl, v_sl]
    array_get_dec
    show Wp (compP _ _ _ _ (cut (ns.map .int) none (some 63)) _) _ _
    rw [cut63 (by rw [List.length_map]; exact hl)]
    refine w_comp (fun x => match x with | .int i => some (.int (if i < 0 then -i else i)) | _ => none) (by rw [List.length_map]; unfold big; omega) (fun x hx => ?_) ?_
    · obtain ⟨i, _, rfl⟩ := List.mem_map.mp hx
      unfold Turn1
      simp only [wipeS]
      array_get_dec
    · rw [fm_int (g := fun i => if i < 0 then -i else i) fun i => rfl]
      array_get_dec
      exact ⟨_, rfl, by rw [List.length_map]; exact hl⟩
  rintro _ ⟨cells, rfl, hc⟩
  array_get_dec
  (repeat (first | rw [if_pos (by first | assumption | decide | omega)] | rw [if_neg (by first | assumption | decide | omega)]))
  exact ⟨_, rfl, cells, 0, 0, _, 0, rfl, by omega, hc⟩
/-! ### the law's own deals -/
abbrev tI (l : List Int) : PV := .tup (l.map .int)
abbrev tR (r : List (List Int)) : PV := .tup (r.map tI)
def fitsB (c : Int) (row : List (List Int)) (lot : List Int) : Bool := lot.all fun x => decide (((row.filter fun o => decide (x ∈ o)).length : Int) < c)
def step (c : Int) (lots : List (List Int)) (rows : List (List (List Int))) : List (List (List Int)) := rows.flatMap fun row => (lots.filter (fitsB c row)).map fun l => row ++ [l]
def iter (c : Int) (lots : List (List Int)) : Nat → List (List (List Int))
  | 0 => [[]]
  | n + 1 => step c lots (iter c lots n)
theorem in_int {x : Int} {l : List Int} : cmpop .isin (.int x) (tI l) = some (decide (x ∈ l)) := by
  show pvinF _ _ = _
  unfold pvinF
  have h1 : (l.map PV.int).all flatP = true := by
    rw [List.all_eq_true]; intro y hy; obtain ⟨i, _, rfl⟩ := List.mem_map.mp hy; rfl
  rw [if_pos (by rw [h1]; rfl)]
  congr 1
  induction l with
  | nil => simp
  | cons y l ih =>
    rw [List.map_cons, List.all_cons, Bool.and_eq_true] at h1
    rw [List.map_cons, List.any_cons, ih h1.2]
    simp [PV.beq]
    by_cases e : y = x
    · subst e; simp
    · have : ¬ x = y := fun z => e z.symm
      simp [e, this]
theorem eqI {l : List Int} {n : Nat} : PV.eqOkA n (l.map PV.int) = true := by
  induction l with
  | nil => simp [PV.eqOkA]
  | cons a l ih => simp [PV.eqOkA, PV.eqOk, ih]
theorem eqR {r : List (List Int)} {n : Nat} : PV.eqOkA (n + 1) (r.map tI) = true := by
  induction r with
  | nil => simp [PV.eqOkA]
  | cons a l ih => simp only [List.map_cons, PV.eqOkA, PV.eqOk, ih, eqI, Bool.and_self]
theorem eqRows {r : List (List (List Int))} {n : Nat} : PV.eqOkA (n + 2) (r.map tR) = true := by
  induction r with
  | nil => simp [PV.eqOkA]
  | cons a l ih => simp only [List.map_cons, PV.eqOkA, PV.eqOk, ih, eqR, Bool.and_self]
theorem ne_nil {r : List (List (List Int))} : cmpop .ne (.lst (r.map tR)) (.lst []) = some (!r.isEmpty) := by
  show (pveq _ _).map _ = _
  unfold pveq
  rw [if_pos (by simp only [PV.eqOk, eqRows (n := 61), PV.eqOkA, Bool.and_self])]
  cases r <;> simp [PV.beq, PV.beqA]
theorem sum_ones {n : Nat} : True := trivial
/-- the test of a lot -/
theorem all_ok {cl : Nat → Option (List PV) → List PV → Outc} {s e m c : PV} {a4 a5 a6 a9 a10 : Slot} {row : List (List Int)} {lot : List Int} {ci : Int} (hc : c = .int ci) (h1 : row.length ≤ 100) (h2 : lot.length ≤ 100) {Q : Bool → Sl → Prop} {E : Nat → List PV → Sl → Prop}
    (q : Q (fitsB ci row lot) [.val s, .val e, .val m, .val c, a4, a5, a6, .val (tR row), .val (tI lot), a9, a10]) :
    Wp ((sem cl (.b1 .all (.comp [9] (.nm 9) (.var 8) .nil (.cmp .lt (.b1 .len (.comp [10] (.nm 10) (.var 7) (.cmp .isin (.var 9) (.var 10)) (.k (.int 1)))) (.var 3))))).t [.val s, .val e, .val m, .val c, a4, a5, a6, .val (tR row), .val (tI lot), a9, a10]) Q E := by
  subst hc
  array_get_dec
  refine w_comp (fun x => match x with | .int i => some (.bl (decide (((row.filter fun o => decide (i ∈ o)).length : Int) < ci))) | _ => none) (by rw [List.length_map]; unfold big; omega) (fun x hx => ?_) ?_
  · obtain ⟨i, _, rfl⟩ := List.mem_map.mp hx
    unfold Turn1
    simp only [wipeS]
    array_get_dec
    refine w_comp (fun x => match x with | .tup l => (match pvinF (.int i) l with | some true => some (.int 1) | _ => none) | _ => none) (by rw [List.length_map]; unfold big; omega) (fun x hx => ?_) ?_
    · obtain ⟨o, _, rfl⟩ := List.mem_map.mp hx
      unfold Turn1
      simp only [wipeS]
      array_get_dec
      have hin := in_int (x := i) (l := o)
      rw [hin]
      array_get_dec
      have hin' : pvinF (.int i) (o.map .int) = some (decide (i ∈ o)) := hin
      rw [hin']
      by_cases hm : i ∈ o
      · simp [hm]
      · simp [hm]
    · array_get_dec
      rw [fm_if (enc := tI) (t := fun o => decide (i ∈ o)) (g := fun _ => PV.int 1), List.length_map]
      intro o
      have hin' : pvinF (.int i) (o.map .int) = some (decide (i ∈ o)) := in_int
      dsimp only
      rw [hin']
      by_cases hm : i ∈ o
      · simp [hm]
      · simp [hm]
  · rw [fm_enc (enc := PV.int) (g := fun i => .bl (decide (((row.filter fun o => decide (i ∈ o)).length : Int) < ci)))]
    · rw [all_map]
      array_get_dec
      exact q
    · exact fun i => rfl
end Lk61
end

section
set_option Elab.async false
set_option linter.all false
set_option maxRecDepth 100000
namespace Lk61
open Pu
theorem step_len {c : Int} {lots : List (List Int)} : ∀ rows : List (List (List Int)), (step c lots rows).length ≤ rows.length * lots.length
  | [] => by simp [step]
  | r :: rows => by
    have ih := step_len (c := c) (lots := lots) rows
    unfold step at ih ⊢
    rw [List.flatMap_cons, List.length_append, List.length_map, List.length_cons]
    have h := List.length_filter_le (fitsB c r) lots
    have : (rows.length + 1) * lots.length = rows.length * lots.length + lots.length := Nat.succ_mul _ _
    omega
theorem iter_len {c : Int} {lots : List (List Int)} : ∀ (n : Nat), ∀ r ∈ iter c lots n, r.length = n
  | 0, r, h => by
    have : r = [] := by simpa [iter] using h
    rw [this]; rfl
  | n + 1, r, h => by
    unfold iter step at h
    obtain ⟨q, hq, hr⟩ := List.mem_flatMap.mp h
    obtain ⟨l, _, rfl⟩ := List.mem_map.mp hr
    rw [List.length_append, iter_len n q hq, List.length_singleton]
theorem iter_many {c : Int} {lots : List (List Int)} (hl : lots.length ≤ 6) : ∀ n : Nat, (iter c lots n).length ≤ 6 ^ n
  | 0 => by simp [iter]
  | n + 1 => by
    have h1 := step_len (c := c) (lots := lots) (iter c lots n)
    have h2 := iter_many (c := c) hl n
    show (step c lots (iter c lots n)).length ≤ 6 ^ (n + 1)
    calc (step c lots (iter c lots n)).length ≤ (iter c lots n).length * lots.length := h1
      _ ≤ 6 ^ n * 6 := Nat.mul_le_mul h2 hl
      _ = 6 ^ (n + 1) := (Nat.pow_succ ..).symm
theorem p6 {n : Nat} (h : n ≤ 4) : 6 ^ n ≤ 1296 := by
  have : 6 ^ n ≤ 6 ^ 4 := Nat.pow_le_pow_right (by omega) h
  omega
def headR (rows : List (List (List Int))) : PV := match rows with
  | [] => .non
  | r :: _ => tR r
theorem r12 {n : Nat} {s m e c : Int} {sn : Nat} (hs : s.toNat = sn) (hs0 : 0 ≤ s) {lots : List (List Int)} (hsn : sn ≤ 4) (hl : lots.length ≤ 6) (hw : ∀ l ∈ lots, l.length ≤ 100) (hL : run tb 1000 n 11 none [.int m, .int e] = .val (.lst (lots.map tI)) []) :
    run tb 1000 (n + 1) 12 none [.int s, .int e, .int m, .int c] = .val (headR (iter c lots sn)) [] := by
  apply wc_val
  rw [run_succ (fn := f12) rfl rfl, show f12.io = false from rfl, w_finish]
  unfold f12
  generalize run tb 1000 n = cl at hL ⊢
  refine s_cut (I := fun ρ => ρ = [.val (.int s), .val (.int e), .val (.int m), .val (.int c), .val (.lst ((iter c lots 0).map tR)), .emp, .emp, .emp, .emp, .emp, .emp]) ?_ ?_
  · array_get_dec
    rfl
  rintro _ rfl
  refine s_cut (I := fun ρ => ∃ a5 a6 a7 a8, ρ = [.val (.int s), .val (.int e), .val (.int m), .val (.int c), .val (.lst ((iter c lots sn).map tR)), a5, a6, a7, a8, .emp, .emp]) ?_ ?_
  · rw [s_for]
    array_get_dec
    rw [if_pos (by unfold small62; simp; omega)]
    refine w_for (fun j ρ => ∃ a5 a6 a7 a8, ρ = [.val (.int s), .val (.int e), .val (.int m), .val (.int c), .val (.lst ((iter c lots j).map tR)), a5, a6, a7, a8, .emp, .emp]) (j := 0) ⟨_, _, _, _, rfl⟩ ?_ ?_
    · rintro j x _ hx ⟨a5, a6, a7, a8, rfl⟩
      have hj : j < sn := by
        have : j < (rngL 0 s.toNat 1).length := by
          by_cases h : j < (rngL 0 s.toNat 1).length
          · exact h
          · rw [List.getElem?_eq_none (by omega)] at hx; cases hx
        unfold rngL at this
        rw [← hs]
        simpa using this
      rw [Nat.zero_add]
      ((first | rw [Pu.wo_nm (by simp)] | rw [if_pos (by simp), Pu.wo_some]; simp only [List.set_cons_succ, List.set_cons_zero]))
      refine s_cut (I := fun ρ => ρ = [.val (.int s), .val (.int e), .val (.int m), .val (.int c), .val (.lst ((iter c lots j).map tR)), .val x, .own [], a7, a8, .emp, .emp]) ?_ ?_
      · array_get_dec
        (repeat (first | rw [if_pos (by first | assumption | decide | omega)] | rw [if_neg (by first | assumption | decide | omega)]))
        trivial
      rintro _ rfl
      refine s_cut (I := fun ρ => ∃ a7 a8, ρ = [.val (.int s), .val (.int e), .val (.int m), .val (.int c), .val (.lst ((iter c lots j).map tR)), .val x, .own ((iter c lots (j + 1)).map tR), a7, a8, .emp, .emp]) ?_ ?_
      · rw [s_for]
        array_get_dec
        refine w_for (fun i ρ => ∃ a7 a8, ρ = [.val (.int s), .val (.int e), .val (.int m), .val (.int c), .val (.lst ((iter c lots j).map tR)), .val x, .own ((step c lots ((iter c lots j).take i)).map tR), a7, a8, .emp, .emp]) (j := 0) ⟨_, _, rfl⟩ ?_ ?_
        · rintro i y _ hy ⟨a7, a8, rfl⟩
          rw [List.getElem?_map] at hy
          obtain ⟨row, hrow, rfl⟩ : ∃ row, (iter c lots j)[i]? = some row ∧ y = tR row := by
            cases h : (iter c lots j)[i]? with
            | none => rw [h] at hy; cases hy
            | some row => rw [h] at hy; exact ⟨row, rfl, (Option.some.inj hy).symm⟩
          have hrl : row.length = j := iter_len j row (List.mem_of_getElem? hrow)
          have hi : i < (iter c lots j).length := by
            by_cases h : i < (iter c lots j).length
            · exact h
            · rw [List.getElem?_eq_none (by omega)] at hrow; cases hrow
          rw [Nat.zero_add]
          ((first | rw [Pu.wo_nm (by simp)] | rw [if_pos (by simp), Pu.wo_some]; simp only [List.set_cons_succ, List.set_cons_zero]))
          rw [s_for, i_call]
          array_get_dec
          rw [hL]
          array_get_dec
          refine w_for (fun k ρ => ∃ a8, ρ = [.val (.int s), .val (.int e), .val (.int m), .val (.int c), .val (.lst ((iter c lots j).map tR)), .val x, .own ((step c lots ((iter c lots j).take i) ++ ((lots.take k).filter (fitsB c row)).map fun l => row ++ [l]).map tR), .val (tR row), a8, .emp, .emp]) (j := 0) ⟨a8, by simp⟩ ?_ ?_
          · rintro k z _ hz ⟨a8, rfl⟩
            rw [List.getElem?_map] at hz
            obtain ⟨lot, hlot, rfl⟩ : ∃ lot, lots[k]? = some lot ∧ z = tI lot := by
              cases h : lots[k]? with
              | none => rw [h] at hz; cases hz
              | some row => rw [h] at hz; exact ⟨row, rfl, (Option.some.inj hz).symm⟩
            have hll := hw lot (List.mem_of_getElem? hlot)
            rw [Nat.zero_add]
            ((first | rw [Pu.wo_nm (by simp)] | rw [if_pos (by simp), Pu.wo_some]; simp only [List.set_cons_succ, List.set_cons_zero]))
            rw [s_ite]
            refine all_ok rfl (by omega) (by omega) ?_
            have hk : k < lots.length := by
              by_cases h : k < lots.length
              · exact h
              · rw [List.getElem?_eq_none (by omega)] at hlot; cases hlot
            have ht : lots.take (k + 1) = lots.take k ++ [lot] := by
              rw [List.take_succ, hlot]; rfl
            cases hfit : fitsB c row lot with
            | true =>
              rw [if_pos rfl]
              have hb : ((step c lots ((iter c lots j).take i) ++ ((lots.take k).filter (fitsB c row)).map fun l => row ++ [l]).map tR).length < big := by
                rw [List.length_map, List.length_append, List.length_map]
                have h1 := step_len (c := c) (lots := lots) ((iter c lots j).take i)
                have h2 := iter_many (c := c) hl j
                have h3 := p6 (n := j) (by omega)
                have h4 := List.length_filter_le (fitsB c row) (lots.take k)
                rw [List.length_take] at h1 h4
                have h5 : min i (iter c lots j).length * lots.length ≤ 1296 * 6 := Nat.mul_le_mul (by omega) hl
                unfold big
                omega
              have ha : (row.map tI).length + 1 ≤ big := by rw [List.length_map]; unfold big; omega
              array_get_dec
              rw [if_pos ha]
              try array_get_dec
              rw [if_pos hb]
              try array_get_dec
              refine ⟨.val (tI lot), ?_⟩
              rw [ht, List.filter_append]
              simp [hfit]
            | false =>
              rw [if_neg (by simp), s_skip, wfl_nx]
              refine ⟨.val (tI lot), ?_⟩
              rw [ht, List.filter_append]
              simp [hfit]
          · rintro _ ⟨a8, rfl⟩
            rw [wfl_nx]
            refine ⟨.val (tR row), a8, ?_⟩
            rw [Nat.zero_add, List.length_map, List.take_length, List.take_succ, hrow]
            unfold step
            simp
        · rintro _ ⟨a7, a8, rfl⟩
          rw [wps_nx]
          refine ⟨a7, a8, ?_⟩
          rw [Nat.zero_add, List.length_map, List.take_length]
          rfl
      rintro _ ⟨a7, a8, rfl⟩
      array_get_dec
      exact ⟨_, _, _, _, rfl⟩
    · rintro _ ⟨a5, a6, a7, a8, rfl⟩
      refine ⟨a5, a6, a7, a8, ?_⟩
      unfold rngL
      simp [hs]
  rintro _ ⟨a5, a6, a7, a8, rfl⟩
  array_get_dec
  (repeat (first | rw [if_pos (by first | assumption | decide | omega)] | rw [if_neg (by first | assumption | decide | omega)]))
  rw [ne_nil, wo_some]
  cases iter c lots sn with
  | nil => simp [headR]
  | cons r rs => simp [headR, Wo]
end Lk61
end

section
set_option Elab.async false
set_option linter.all false
set_option maxRecDepth 100000
namespace Lk61
open Pu
/-! ### the first row without the others -/
def dfs (c : Int) (lots : List (List Int)) : Nat → List (List Int) → Option (List (List Int))
  | 0, row => some row
  | n + 1, row => (lots.filter (fitsB c row)).findSome? fun l => dfs c lots n (row ++ [l])
def itn (c : Int) (lots : List (List Int)) : Nat → List (List (List Int)) → List (List (List Int))
  | 0, rows => rows
  | n + 1, rows => itn c lots n (step c lots rows)
theorem itn_step {c : Int} {lots : List (List Int)} : ∀ (n : Nat) (rows : List (List (List Int))), itn c lots (n + 1) rows = step c lots (itn c lots n rows)
  | 0, _ => rfl
  | n + 1, rows => by
    show itn c lots (n + 1) (step c lots rows) = _
    rw [itn_step n]; rfl
theorem iter_itn {c : Int} {lots : List (List Int)} : ∀ n : Nat, iter c lots n = itn c lots n [[]]
  | 0 => rfl
  | n + 1 => by rw [itn_step, ← iter_itn n]; rfl
theorem step_app {c : Int} {lots : List (List Int)} {xs ys : List (List (List Int))} : step c lots (xs ++ ys) = step c lots xs ++ step c lots ys := by
  unfold step; rw [List.flatMap_append]
theorem itn_app {c : Int} {lots : List (List Int)} : ∀ (n : Nat) (xs ys : List (List (List Int))), itn c lots n (xs ++ ys) = itn c lots n xs ++ itn c lots n ys
  | 0, _, _ => rfl
  | n + 1, xs, ys => by
    show itn c lots n (step c lots (xs ++ ys)) = itn c lots n (step c lots xs) ++ itn c lots n (step c lots ys)
    rw [step_app, itn_app n]
theorem itn_nil {c : Int} {lots : List (List Int)} : ∀ n : Nat, itn c lots n [] = []
  | 0 => rfl
  | n + 1 => itn_nil n
theorem head_itn {c : Int} {lots : List (List Int)} {n : Nat} {f : List (List Int) → Option (List (List Int))} (h : ∀ r, (itn c lots n [r]).head? = f r) : ∀ rows, (itn c lots n rows).head? = rows.findSome? f
  | [] => by rw [itn_nil]; rfl
  | r :: rows => by
    rw [show r :: rows = [r] ++ rows from rfl, itn_app, List.head?_append, h, head_itn h rows]
    show _ = List.findSome? f (r :: rows)
    rw [List.findSome?_cons]
    cases f r <;> rfl
theorem dfs_ok {c : Int} {lots : List (List Int)} : ∀ (n : Nat) (r : List (List Int)), (itn c lots n [r]).head? = dfs c lots n r
  | 0, _ => rfl
  | n + 1, r => by
    show (itn c lots n (step c lots [r])).head? = _
    rw [head_itn (dfs_ok n)]
    unfold step dfs
    simp [List.findSome?_map]
    rfl
def first (c : Int) (lots : List (List Int)) (n : Nat) : PV := match dfs c lots n [] with
  | none => .non
  | some r => tR r
theorem headR_ok {c : Int} {lots : List (List Int)} {n : Nat} : headR (iter c lots n) = first c lots n := by
  have h := dfs_ok (c := c) (lots := lots) n []
  rw [← iter_itn] at h
  unfold first headR
  cases e : iter c lots n with
  | nil => rw [e] at h; rw [← h]; rfl
  | cons r rs => rw [e] at h; rw [← h]; rfl
/-! ### the lots -/
def lotsT : Int → Int → List (List Int)
  | 1, _ => [[0]]
  | 2, 1 => [[0], [1]]
  | 2, _ => [[0, 1]]
  | 3, 1 => [[0], [1], [2]]
  | 3, 2 => [[0, 1], [0, 2], [1, 2]]
  | 3, _ => [[0, 1, 2]]
  | _, 1 => [[0], [1], [2], [3]]
  | _, 2 => [[0, 1], [0, 2], [0, 3], [1, 2], [1, 3], [2, 3]]
  | _, 3 => [[0, 1, 2], [0, 1, 3], [0, 2, 3], [1, 2, 3]]
  | _, _ => [[0, 1, 2, 3]]
def deI : List PV → Option (List Int)
  | [] => some []
  | .int i :: xs => (deI xs).map (i :: ·)
  | _ => none
def deL : List PV → Option (List (List Int))
  | [] => some []
  | .tup a :: xs => match deI a with
    | some l => (deL xs).map (l :: ·)
    | none => none
  | _ => none
theorem deI_ok : ∀ {xs : List PV} {l : List Int}, deI xs = some l → xs = l.map .int
  | [], _, h => by cases h; rfl
  | x :: xs, l, h => by
    cases x with
    | int i =>
      unfold deI at h
      cases e : deI xs with
      | none => rw [e] at h; cases h
      | some r => rw [e] at h; cases h; rw [deI_ok e]; rfl
    | _ => cases h
theorem deL_ok : ∀ {xs : List PV} {l : List (List Int)}, deL xs = some l → xs = l.map tI
  | [], _, h => by cases h; rfl
  | x :: xs, l, h => by
    cases x with
    | tup a =>
      unfold deL at h
      cases ea : deI a with
      | none => rw [ea] at h; cases h
      | some b =>
        rw [ea] at h
        dsimp only at h
        cases e : deL xs with
        | none => rw [e] at h; cases h
        | some r => rw [e] at h; cases h; rw [deL_ok e, deI_ok ea]; rfl
    | _ => cases h
def goodL (m e : Int) : Bool := match run tb 1000 6 11 none [.int m, .int e] with
  | .val (.lst xs) [] => deL xs == some (lotsT m e)
  | _ => false
def goodD (s e m c : Int) : Bool := match run tb 1000 7 7 none [.int s, .int e, .int m, .int c] with
  | .val v [] => (match b1 .tuple v with
    | some w => (if s * e - m * min c s > 0 then (match cmpop .ne w (.tup [.str [115, 104, 111, 114, 116], .int (s * e - m * min c s)]) with
        | some false => (first c (lotsT m e) s.toNat).isNon
        | _ => false)
      else (match dfs c (lotsT m e) s.toNat [] with
        | none => false
        | some r => (match cmpop .ne w (.tup [.str [100, 101, 97, 108], tR r]) with
          | some false => true
          | _ => false)))
    | none => false)
  | _ => false
def allL : Bool := [1, 2, 3, 4].all fun m => [1, 2, 3, 4].all fun e => decide (m < e) || goodL m e
def allD (s : Int) : Bool := [1, 2, 3, 4].all fun m => [1, 2, 3, 4].all fun e => [1, 2, 3, 4, 5].all fun c => decide (m < e) || goodD s e m c
theorem allL_ok : allL = true := by decide +kernel
theorem allD1 : allD 1 = true := by decide +kernel
theorem allD2 : allD 2 = true := by decide +kernel
theorem allD3 : allD 3 = true := by decide +kernel
end Lk61
end

section
set_option Elab.async false
set_option linter.all false
set_option maxRecDepth 100000
namespace Lk61
open Pu
theorem allD4 : allD 4 = true := by decide +kernel
theorem in4 {P : Int → Bool} (h : [1, 2, 3, 4].all P = true) {x : Int} (h1 : 1 ≤ x) (h2 : x ≤ 4) : P x = true := by
  rw [List.all_eq_true] at h
  exact h x (by simp; omega)
theorem in5 {P : Int → Bool} (h : [1, 2, 3, 4, 5].all P = true) {x : Int} (h1 : 1 ≤ x) (h2 : x ≤ 5) : P x = true := by
  rw [List.all_eq_true] at h
  exact h x (by simp; omega)
theorem goodL_ok {m e : Int} (h1 : 1 ≤ m) (h2 : m ≤ 4) (h3 : 1 ≤ e) (h4 : e ≤ m) : run tb 1000 6 11 none [.int m, .int e] = .val (.lst ((lotsT m e).map tI)) [] := by
  have h := in4 (P := fun e => decide (m < e) || goodL m e) (in4 (P := fun m => [1, 2, 3, 4].all fun e => decide (m < e) || goodL m e) allL_ok h1 h2) h3 (by omega)
  rw [decide_eq_false (by omega), Bool.false_or] at h
  unfold goodL at h
  split at h
  · rename_i v e'
    have h' := deL_ok (eq_of_beq h)
    rw [e', h']
  · cases h
theorem goodD_ok {s m e c : Int} (g1 : 1 ≤ s) (g2 : s ≤ 4) (h1 : 1 ≤ m) (h2 : m ≤ 4) (h3 : 1 ≤ e) (h4 : e ≤ m) (h5 : 1 ≤ c) (h6 : c ≤ 5) : goodD s e m c = true := by
  have hs : allD s = true := by
    have : s = 1 ∨ s = 2 ∨ s = 3 ∨ s = 4 := by omega
    rcases this with rfl | rfl | rfl | rfl
    · exact allD1
    · exact allD2
    · exact allD3
    · exact allD4
  have h := in5 (P := fun c => decide (m < e) || goodD s e m c) (in4 (P := fun e => [1, 2, 3, 4, 5].all fun c => decide (m < e) || goodD s e m c) (in4 (P := fun m => [1, 2, 3, 4].all fun e => [1, 2, 3, 4, 5].all fun c => decide (m < e) || goodD s e m c) hs h1 h2) h3 (by omega)) h5 h6
  rw [decide_eq_false (by omega), Bool.false_or] at h
  exact h
theorem lots_small {m e : Int} : (lotsT m e).length ≤ 6 ∧ ∀ l ∈ lotsT m e, l.length ≤ 100 := by
  unfold lotsT
  split <;> simp
/-- the two deals -/
theorem deals {s m e c : Int} (g1 : 1 ≤ s) (g2 : s ≤ 4) (h1 : 1 ≤ m) (h2 : m ≤ 4) (h3 : 1 ≤ e) (h4 : e ≤ m) (h5 : 1 ≤ c) (h6 : c ≤ 5) :
    ∃ v w f, run tb 1000 7 7 none [.int s, .int e, .int m, .int c] = .val v [] ∧ b1 .tuple v = some w ∧ run tb 1000 7 12 none [.int s, .int e, .int m, .int c] = .val f [] ∧
      f.isNon = decide (s * e - m * min c s > 0) ∧
      (s * e - m * min c s > 0 → cmpop .ne w (.tup [.str [115, 104, 111, 114, 116], .int (s * e - m * min c s)]) = some false) ∧
      (¬ s * e - m * min c s > 0 → cmpop .ne w (.tup [.str [100, 101, 97, 108], f]) = some false) := by
  have hf := r12 (n := 6) (s := s) (m := m) (e := e) (c := c) (sn := s.toNat) rfl (by omega) (by omega) (lots_small (m := m) (e := e)).1 lots_small.2 (goodL_ok h1 h2 h3 h4)
  rw [headR_ok] at hf
  have h := goodD_ok g1 g2 h1 h2 h3 h4 h5 h6
  unfold goodD at h
  split at h
  case h_2 => cases h
  rename_i v ev
  split at h
  case h_2 => cases h
  rename_i w ew
  by_cases hp : s * e - m * min c s > 0
  · rw [if_pos hp] at h
    split at h
    case h_2 => cases h
    rename_i hc
    exact ⟨v, w, _, ev, ew, hf, by rw [h, decide_eq_true hp], fun _ => hc, fun z => absurd hp z⟩
  · rw [if_neg hp] at h
    split at h
    case h_1 => cases h
    rename_i r er
    split at h
    case h_2 => cases h
    rename_i hc
    have e1 : first c (lotsT m e) s.toNat = tR r := by unfold first; rw [er]
    rw [e1] at hf
    exact ⟨v, w, _, ev, ew, hf, by rw [decide_eq_false hp]; rfl, fun z => absurd z hp, fun _ => hc⟩
end Lk61
end

section
set_option Elab.async false
set_option linter.all false
set_option maxRecDepth 100000
namespace Lk61
open Pu
/-! ### the lots of the days -/
def subs : Nat → List (List Int)
  | 0 => [[]]
  | n + 1 => subs n ++ (subs n).map (· ++ [(n : Int)])
def goodS (m : Int) (l : List Int) : Bool := match run tb 1000 6 3 none [tI l, .int m] with
  | .val (.bl true) [] => true
  | _ => false
def allS : Bool := [1, 2, 3, 4].all fun m => (subs m.toNat).all (goodS m)
theorem allS_ok : allS = true := by decide +kernel
theorem r3 {m : Int} {l : List Int} (h1 : 1 ≤ m) (h2 : m ≤ 4) (h : l ∈ subs m.toNat) : run tb 1000 6 3 none [tI l, .int m] = .val (.bl true) [] := by
  have h' := in4 (P := fun m => (subs m.toNat).all (goodS m)) allS_ok h1 h2
  rw [List.all_eq_true] at h'
  have h3 := h' l h
  unfold goodS at h3
  split at h3
  · assumption
  · cases h3
theorem len_t {xs : List PV} {Q : PV → Prop} (h : ∀ k : Int, k = xs.length → Q (.int k)) : Wo (b1 .len (.tup xs)) Q := by
  rw [b1_len_t]; exact h _ rfl
theorem r2 {n : Nat} {xs : List PV} {lo hi : Int} (h1 : lo ≤ xs.length) (h2 : (xs.length : Int) ≤ hi) : run tb 1000 (n + 1) 2 none [.tup xs, .int lo, .int hi] = .val (.bl true) [] := by
  apply wc_val
  rw [run_succ (fn := f2) rfl rfl, show f2.io = false from rfl, w_finish]
  unfold f2
  generalize hk : (xs.length : Int) = k at h1 h2
  array_get_dec
  rw [hk]
  (repeat (first | rw [if_pos (by first | assumption | decide | omega)] | rw [if_neg (by first | assumption | decide | omega)]))
  rw [decide_eq_true h2]
/-- how many of the lots hold both -/
def cnt (lots : List (List Int)) (i j : Int) : Int := ((lots.filter fun l => decide (i ∈ l) && decide (j ∈ l)).length : Int)
def colF (lots : List (List Int)) (i : Int) : PV → Option PV
  | .int j => some (.int (cnt lots i j))
  | _ => none
def rowP (lots : List (List Int)) (m : Int) : PV → List PV
  | .int i => (rngL (i + 1) (m - (i + 1)).toNat 1).filterMap (colF lots i)
  | _ => []
def pairs (lots : List (List Int)) (m : Int) (xs : List PV) : List PV := xs.flatMap (rowP lots m)
theorem rng_int {a : Int} {n : Nat} {x : PV} (h : x ∈ rngL a n 1) : ∃ i, x = .int i ∧ a ≤ i ∧ i < a + n := by
  unfold rngL at h
  obtain ⟨k, hk, rfl⟩ := List.mem_map.mp h
  rw [List.mem_range] at hk
  exact ⟨_, rfl, by omega, by omega⟩
theorem rng_len {a : Int} {n : Nat} : (rngL a n 1).length = n := by unfold rngL; simp
theorem pairs_len {lots : List (List Int)} {m : Int} {n : Nat} (hm : m ≤ 5) : ∀ xs : List PV, (∀ x ∈ xs, ∃ i, x = PV.int i ∧ 0 ≤ i) → (pairs lots m xs).length ≤ xs.length * 5
  | [], _ => by simp [pairs]
  | x :: xs, h => by
    have ih := pairs_len (lots := lots) (n := n) hm xs fun x hx => h x (List.mem_cons_of_mem _ hx)
    obtain ⟨i, rfl, hi⟩ := h x (List.mem_cons_self ..)
    unfold pairs at ih ⊢
    rw [List.flatMap_cons, List.length_append]
    have h1 : (rowP lots m (.int i)).length ≤ (rngL (i + 1) (m - (i + 1)).toNat 1).length := List.length_filterMap_le ..
    rw [rng_len] at h1
    have : (PV.int i :: xs).length = xs.length + 1 := rfl
    omega
theorem take_one {α : Type} {xs : List α} {i : Nat} {x : α} (h : xs[i]? = some x) : xs.take (i + 1) = xs.take i ++ [x] := by
  rw [List.take_succ, h]; rfl
def both (i j : Int) : PV → Option PV
  | .tup l => match pvinF (.int i) l, pvinF (.int j) l with
    | some true, some true => some (.int 1)
    | _, _ => none
  | _ => none
theorem both_tI {i j : Int} {l : List Int} : both i j (tI l) = if decide (i ∈ l) && decide (j ∈ l) then some (.int 1) else none := by
  have h1 : pvinF (.int i) (l.map .int) = some (decide (i ∈ l)) := in_int
  have h2 : pvinF (.int j) (l.map .int) = some (decide (j ∈ l)) := in_int
  unfold both
  dsimp only
  rw [h1, h2]
  by_cases ha : i ∈ l <;> by_cases hb : j ∈ l <;> simp [ha, hb]
theorem fm_both {i j : Int} {lots : List (List Int)} : ((((lots.map tI).filterMap (both i j)).length : Nat) : Int) = cnt lots i j := by
  rw [fm_if (enc := tI) (t := fun l => decide (i ∈ l) && decide (j ∈ l)) (g := fun _ => PV.int 1) fun x => both_tI, List.length_map]
  rfl
theorem r8 {m : Int} {lots : List (List Int)} (h1 : 1 ≤ m) (h2 : m ≤ 4) (hl : lots.length ≤ 8) (hs : ∀ l ∈ lots, l ∈ subs m.toNat) :
    run tb 1000 7 8 none [.int m, .tup (lots.map tI)] = .val (.tup (pairs lots m (rngL 0 m.toNat 1))) [] := by
  apply wc_val
  have hr1 : run tb 1000 6 1 none [.int m, .int 1, .int 5] = .val (.bl true) [] := by
    rw [r1 (n := 4), decide_eq_true h1, decide_eq_true (by omega)]; rfl
  have hr2 : run tb 1000 6 2 none [.tup (lots.map tI), .int 0, .int 8] = .val (.bl true) [] := r2 (n := 5) (by omega) (by rw [List.length_map]; omega)
  have hr3 : ∀ l ∈ lots, run tb 1000 6 3 none [tI l, .int m] = .val (.bl true) [] := fun l hx => r3 h1 h2 (hs l hx)
  rw [run_succ (n := 6) (fn := f8) rfl rfl, show f8.io = false from rfl, w_finish]
  unfold f8
  generalize run tb 1000 6 = cl at hr1 hr2 hr3 ⊢
  refine s_cut (I := fun ρ => ρ = [.val (.int m), .val (.tup (lots.map tI)), .emp, .emp, .emp, .emp]) ?_ ?_
  · array_get_dec
    rw [hr1]
    array_get_dec
  rintro _ rfl
  refine s_cut (I := fun ρ => ρ = [.val (.int m), .val (.tup (lots.map tI)), .emp, .emp, .emp, .emp]) ?_ ?_
  · array_get_dec
    rw [hr2]
    array_get_dec
    simp
    refine w_comp (fun _ => some (.bl true)) (by rw [List.length_map]; unfold big; omega) (fun x hx => ?_) ?_
    · obtain ⟨l, hl, rfl⟩ := List.mem_map.mp hx
      unfold Turn1
      simp only [wipeS]
      array_get_dec
      rw [hr3 l hl]
      array_get_dec
    · rw [fm_enc (enc := tI) (g := fun _ => .bl ((fun _ => true) ())) fun _ => rfl, all_map]
      array_get_dec
      simp
  rintro _ rfl
  refine s_cut (I := fun ρ => ρ = [.val (.int m), .val (.tup (lots.map tI)), .own [], .emp, .emp, .emp]) ?_ ?_
  · array_get_dec
    rw [if_pos (by decide)]
    trivial
  rintro _ rfl
  refine s_cut (I := fun ρ => ∃ a3 a4 a5, ρ = [.val (.int m), .val (.tup (lots.map tI)), .own (pairs lots m (rngL 0 m.toNat 1)), a3, a4, a5]) ?_ ?_
  · rw [s_for]
    array_get_dec
    rw [if_pos (by unfold small62; simp; omega)]
    have hn : m.toNat ≤ 5 := by omega
    have hri : ∀ x ∈ rngL 0 m.toNat 1, ∃ i, x = PV.int i ∧ 0 ≤ i := fun x hx => by
      obtain ⟨i, rfl, h, _⟩ := rng_int hx
      exact ⟨i, rfl, h⟩
    have hrl : (rngL 0 m.toNat 1).length ≤ 5 := by rw [rng_len]; exact hn
    have hrm : ∀ x ∈ rngL 0 m.toNat 1, ∃ i, x = PV.int i ∧ 0 ≤ i ∧ i < m := fun x hx => by
      obtain ⟨i, rfl, h, h'⟩ := rng_int hx
      exact ⟨i, rfl, h, by omega⟩
    generalize rngL 0 m.toNat 1 = xs at *
    refine w_for (fun k ρ => ∃ a3 a4 a5, ρ = [.val (.int m), .val (.tup (lots.map tI)), .own (pairs lots m (xs.take k)), a3, a4, a5]) (j := 0) ⟨_, _, _, rfl⟩ ?_ ?_
    · rintro k x _ hx ⟨a3, a4, a5, rfl⟩
      have hxm := List.mem_of_getElem? hx
      obtain ⟨i, rfl, hi0, hi1⟩ := hrm x hxm
      rw [Nat.zero_add]
      ((first | rw [Pu.wo_nm (by simp)] | rw [if_pos (by simp), Pu.wo_some]; simp only [List.set_cons_succ, List.set_cons_zero]))
      rw [s_ext]
      array_get_dec
      simp
      refine ⟨⟨by unfold small62; simp; omega, by unfold small62; simp; omega⟩, ?_⟩
      have hb : (rngL (i + 1) (m - (i + 1)).toNat 1).length ≤ 5 := by rw [rng_len]; omega
      have hw : ∀ x ∈ rngL (i + 1) (m - (i + 1)).toNat 1, ∃ j, x = PV.int j := fun x hx => by
        obtain ⟨j, rfl, _⟩ := rng_int hx
        exact ⟨j, rfl⟩
      refine w_comp (colF lots i) (by unfold big; omega) (fun x hx => ?_) ?_
      · obtain ⟨j, rfl⟩ := hw x hx
        unfold Turn1
        simp only [wipeS]
        array_get_dec
        refine w_comp (both i j) (by rw [List.length_map]; unfold big; omega) (fun x hx => ?_) ?_
        · obtain ⟨o, _, rfl⟩ := List.mem_map.mp hx
          unfold Turn1
          simp only [wipeS]
          array_get_dec
          rw [in_int]
          array_get_dec
          rw [in_int]
          array_get_dec
          rw [both_tI]
          by_cases ha : i ∈ o <;> by_cases hb : j ∈ o <;> simp [ha, hb]
        · array_get_dec
          rw [fm_both]
          trivial
      · have hpl := pairs_len (lots := lots) (m := m) (n := 0) (by omega) (xs.take k) fun x hx => hri x (List.mem_of_mem_take hx)
        have h5 : (xs.take k).length ≤ 5 := Nat.le_trans (List.length_take_le' ..) hrl
        have h6 : (rowP lots m (.int i)).length ≤ 5 := Nat.le_trans (List.length_filterMap_le ..) hb
        simp only [rowP] at h6
        array_get_dec
        rw [if_pos (by unfold big; omega)]
        refine ⟨.val (.int i), a4, a5, ?_⟩
        unfold pairs
        rw [take_one hx, List.flatMap_append]
        simp
        rfl
    · rintro _ ⟨a3, a4, a5, rfl⟩
      refine ⟨a3, a4, a5, ?_⟩
      rw [Nat.zero_add, List.take_length]
  rintro _ ⟨a3, a4, a5, rfl⟩
  array_get_dec
end Lk61
end

section
set_option Elab.async false
set_option linter.all false
set_option maxRecDepth 100000
namespace Lk61
open Pu
/-! ### the law -/
def isV (o : Outc) (t : PV) : Bool := match o with
  | .val v [] => (match b1 .tuple v with
    | some w => (match cmpop .ne w t with
      | some false => true
      | _ => false)
    | none => false)
  | _ => false
theorem isV_ok {o : Outc} {t : PV} (h : isV o t = true) : ∃ v w, o = .val v [] ∧ b1 .tuple v = some w ∧ cmpop .ne w t = some false := by
  unfold isV at h
  split at h
  case h_2 => cases h
  split at h
  case h_2 => cases h
  rename_i w ew
  split at h
  case h_2 => cases h
  rename_i hc
  exact ⟨_, w, rfl, ew, hc⟩
theorem kn1 : isV (run tb 1000 7 7 none [.int 2, .int 1, .int 2, .int 1]) (.tup [.str [100, 101, 97, 108], .tup [.tup [.int 0], .tup [.int 1]]]) = true := by decide +kernel
theorem kn2 : isV (run tb 1000 7 7 none [.int 3, .int 2, .int 2, .int 2]) (.tup [.str [115, 104, 111, 114, 116], .int 2]) = true := by decide +kernel
theorem kn3 : isV (run tb 1000 7 7 none [.int 1, .int 1, .int 1, .int 8]) (.tup [.str [100, 101, 97, 108], .tup [.tup [.int 0]]]) = true := by decide +kernel
theorem kn4 : isV (run tb 1000 7 8 none [.int 3, .tup [.tup [.int 0, .int 1], .tup [.int 0, .int 1, .int 2]]]) (.tup [.int 2, .int 1, .int 1]) = true := by decide +kernel
theorem kn {cl : Nat → Option (List PV) → List PV → Outc} {fuel f : Nat} {a t : PX} {ρ : Sl} {ys : List PV} {tv : PV} (h : isV (cl f none ys) tv = true)
    (ha : ∀ {Q : PV → Sl → Prop} {E : Nat → List PV → Sl → Prop}, Q (.tup ys) ρ → Wp ((sem cl a).v ρ) Q E) (ht : ∀ {Q : PV → Sl → Prop} {E : Nat → List PV → Sl → Prop}, Q tv ρ → Wp ((sem cl t).v ρ) Q E) {Q : Fl → Sl → Prop} {E : Nat → List PV → Sl → Prop} (q : Q .nx ρ) :
    Wp (denS cl fuel (.ite (.cmp .ne (.b1 .tuple (.call f a)) t) (.ret (.k (.bl false))) .skip) ρ) Q E := by
  obtain ⟨v, w, h1, h2, h3⟩ := isV_ok h
  rw [s_ite, t_cmp, v_b1, v_call]
  apply ha
  rw [w_call, h1, wc_v, h2, wo_some]
  apply ht
  rw [h3, wo_some, if_neg (by simp), s_skip]
  exact q
def Inv (ρ : Sl) : Prop := ∃ x xs a2 a3 a4 a5 a6 a7 a8 a9 a10 a11 a12 a13 a14 a15 a16, ρ = [.val x, .own xs, a2, a3, a4, a5, a6, a7, a8, a9, a10, a11, a12, a13, a14, a15, a16] ∧ Hand xs
theorem rng_at {n k : Nat} {x : PV} (h : (rngL 0 n 1)[k]? = some x) : x = .int k := by
  unfold rngL at h
  rw [List.getElem?_map] at h
  by_cases hk : k < n
  · rw [List.getElem?_range hk] at h
    simpa using h.symm
  · rw [List.getElem?_eq_none (by simp; omega)] at h; cases h
theorem beqI : ∀ (l : List Int), PV.beqA (l.map PV.int) (l.map PV.int) = true
  | [] => by simp [PV.beqA]
  | x :: l => by simp [PV.beqA, PV.beq, beqI l]
theorem ne_ints {l : List Int} : cmpop .ne (tI l) (tI l) = some false := by
  show (pveq _ _).map _ = _
  unfold pveq
  rw [if_pos (by simp only [PV.eqOk, eqI, Bool.and_self])]
  simp [PV.beq, beqI]
theorem pairs_int {lots : List (List Int)} {m : Int} : ∀ xs : List PV, ∃ l : List Int, pairs lots m xs = l.map .int
  | [] => ⟨[], rfl⟩
  | x :: xs => by
    obtain ⟨l, hl⟩ := pairs_int (lots := lots) (m := m) xs
    have : ∃ r : List Int, rowP lots m x = r.map .int := by
      cases x with
      | int i =>
        show ∃ r : List Int, List.filterMap (colF lots i) (rngL (i + 1) (m - (i + 1)).toNat 1) = r.map PV.int
        generalize rngL (i + 1) (m - (i + 1)).toNat 1 = ys
        induction ys with
        | nil => exact ⟨[], rfl⟩
        | cons y ys ih =>
          obtain ⟨r, hr⟩ := ih
          rw [List.filterMap_cons]
          cases y with
          | int j => exact ⟨cnt lots i j :: r, by show _ :: _ = _; rw [hr]; rfl⟩
          | _ => exact ⟨r, hr⟩
      | _ => exact ⟨[], rfl⟩
    obtain ⟨r, hr⟩ := this
    refine ⟨r ++ l, ?_⟩
    unfold pairs at hl ⊢
    rw [List.flatMap_cons, hl, hr, List.map_append]
theorem ne_pairs {lots : List (List Int)} {m : Int} {xs : List PV} : cmpop .ne (.tup (pairs lots m xs)) (.tup (pairs lots m xs)) = some false := by
  obtain ⟨l, hl⟩ := pairs_int (lots := lots) (m := m) xs
  rw [hl]; exact ne_ints
theorem law_ok {ns : List Int} (hl : ns.length ≤ 63) : run tb 1000 8 13 none [.scr (ns.map .int)] = .val (.bl true) [] := by
  apply wc_val
  obtain ⟨xs, h9, hx⟩ := r9 (n := 6) hl
  have hd : ∀ xs m, Hand xs → 0 < m → m < 1000 → ∃ d ys, run tb 1000 7 10 (some xs) [.int m] = .val (.int d) ys ∧ 0 ≤ d ∧ d < m ∧ Hand ys := fun xs m h1 h2 h3 => r10 (n := 6) h1 h2 h3
  have hdl := @deals
  have hp := @r8
  have k1 := kn1
  have k2 := kn2
  have k3 := kn3
  have k4 := kn4
  rw [run_succ (n := 7) (fn := f13) rfl rfl, show f13.io = false from rfl, w_finish]
  unfold f13
  generalize run tb 1000 7 = cl at *
  refine s_cut (I := Inv) ?_ ?_
  · array_get_dec
    rw [h9]
    array_get_dec
    exact ⟨_, _, _, _, _, _, _, _, _, _, _, _, _, _, _, _, _, rfl, hx⟩
  rintro ρ hi
  refine s_cut (I := Inv) ?_ ?_
  · exact kn k1 (fun q => by array_get_dec; exact q) (fun q => by array_get_dec; simp; exact ⟨by decide, by decide, q⟩) hi
  clear hi ρ
  rintro ρ hi
  refine s_cut (I := Inv) ?_ ?_
  · exact kn k2 (fun q => by array_get_dec; exact q) (fun q => by array_get_dec; simp; exact ⟨by decide, q⟩) hi
  clear hi ρ
  rintro ρ hi
  refine s_cut (I := Inv) ?_ ?_
  · exact kn k3 (fun q => by array_get_dec; exact q) (fun q => by array_get_dec; simp; exact ⟨by decide, by decide, q⟩) hi
  clear hi ρ
  rintro ρ hi
  refine s_cut (I := Inv) ?_ ?_
  · exact kn k4 (fun q => by array_get_dec; simp; exact ⟨by decide, by decide, by decide, q⟩) (fun q => by array_get_dec; simp; exact ⟨by decide, q⟩) hi
  clear hi ρ
  rintro ρ hi
  refine s_cut (I := Inv) ?_ ?_
  · rw [s_for]
    array_get_dec
    rw [if_pos (by decide)]
    refine w_for (fun _ ρ => Inv ρ) (j := 0) hi ?_ ?_
    · clear hi hx h9 ρ
      rintro _ z _ _ ⟨x, xs, a2, a3, a4, a5, a6, a7, a8, a9, a10, a11, a12, a13, a14, a15, a16, rfl, hx⟩
      ((first | rw [Pu.wo_nm (by simp)] | rw [if_pos (by simp), Pu.wo_some]; simp only [List.set_cons_succ, List.set_cons_zero]))
      refine s_cut (I := fun ρ => ∃ xs s m c, ρ = [.val x, .own xs, .val z, a3, a4, a5, a6, a7, .val (.int s), .val (.int m), .val (.int c), a11, a12, a13, a14, a15, a16] ∧ Hand xs ∧ (1 ≤ s ∧ s ≤ 4) ∧ (1 ≤ m ∧ m ≤ 4) ∧ (1 ≤ c ∧ c ≤ 5)) ?_ ?_
      · array_get_dec
        obtain ⟨d1, y1, e1, b1, c1, hx1⟩ := hd _ 4 hx (by omega) (by omega)
        rw [e1]
        array_get_dec
        obtain ⟨d2, y2, e2, b2, c2, hx2⟩ := hd _ 4 hx1 (by omega) (by omega)
        rw [e2]
        array_get_dec
        obtain ⟨d3, y3, e3, b3, c3, hx3⟩ := hd _ 5 hx2 (by omega) (by omega)
        rw [e3]
        array_get_dec
        simp
        refine ⟨by decide, _, _, _, _, ⟨rfl, rfl, rfl, rfl⟩, hx3, by omega, by omega, by omega⟩
      clear hx xs
      rintro _ ⟨xs, s, m, c, rfl, hx, hs, hm, hc⟩
      refine s_cut (I := fun ρ => ∃ xs e, ρ = [.val x, .own xs, .val z, .val (.int e), a4, a5, a6, a7, .val (.int s), .val (.int m), .val (.int c), a11, a12, a13, a14, a15, a16] ∧ Hand xs ∧ (1 ≤ e ∧ e ≤ m)) ?_ ?_
      · array_get_dec
        obtain ⟨d1, y1, e1, b1, c1, hx1⟩ := hd _ m hx (by omega) (by omega)
        rw [e1]
        array_get_dec
        exact ⟨_, _, rfl, hx1, by omega, by omega⟩
      clear hx xs
      rintro _ ⟨xs, e, rfl, hx, he⟩
      refine s_cut (I := fun ρ => ρ = [.val x, .own xs, .val z, .val (.int e), .val (.int (s * e - m * min c s)), a5, a6, a7, .val (.int s), .val (.int m), .val (.int c), a11, a12, a13, a14, a15, a16]) ?_ ?_
      · array_get_dec
        rw [if_pos (by left; omega), if_pos (by left; omega)]
        rw [show (if s < c then s else c) = min c s by split <;> omega]
      rintro _ rfl
      obtain ⟨v, w, f, q1, q2, q3, q4, q5, q6⟩ := hdl hs.1 hs.2 hm.1 hm.2 he.1 he.2 hc.1 hc.2
      generalize s * e - m * min c s = g at q4 q5 q6 ⊢
      refine s_cut (I := fun ρ => ρ = [.val x, .own xs, .val z, .val (.int e), .val (.int g), a5, a6, a7, .val (.int s), .val (.int m), .val (.int c), .val f, .val w, a13, a14, a15, a16]) ?_ ?_
      · array_get_dec
        rw [q3]
        array_get_dec
        rw [q1]
        array_get_dec
        rw [q2]
        array_get_dec
      rintro _ rfl
      refine s_cut (I := fun ρ => ρ = [.val x, .own xs, .val z, .val (.int e), .val (.int g), a5, a6, a7, .val (.int s), .val (.int m), .val (.int c), .val f, .val w, a13, a14, a15, a16]) ?_ ?_
      · array_get_dec
        unfold PV.isNon at q4
        rw [q4]
        simp
      rintro _ rfl
      refine s_cut (I := fun ρ => ρ = [.val x, .own xs, .val z, .val (.int e), .val (.int g), a5, a6, a7, .val (.int s), .val (.int m), .val (.int c), .val f, .val w, a13, a14, a15, a16]) ?_ ?_
      · array_get_dec
        split
        · rename_i hg
          rw [if_pos (by decide), q5 hg]
          array_get_dec
        · rename_i hg
          rw [if_pos (by decide), q6 hg]
          array_get_dec
      rintro _ rfl
      clear q1 q2 q3 q4 q5 q6 v
      refine s_cut (I := fun ρ => ∃ (xs : List PV) (lots : List (List Int)), ρ = [.val x, .own xs, .val z, .val (.int e), .val (.int g), .val (.tup (lots.map tI)), a6, a7, .val (.int s), .val (.int m), .val (.int c), .val f, .val w, a13, a14, a15, a16] ∧ Hand xs ∧ lots.length ≤ 8 ∧ ∀ l ∈ lots, l ∈ subs m.toNat) ?_ ?_
      · array_get_dec
        obtain ⟨d1, y1, e1, b1, c1, hx1⟩ := hd _ 9 hx (by omega) (by omega)
        rw [e1]
        array_get_dec
        rw [if_pos (by unfold small62; simp; omega)]
        refine w_compI (fun k acc ρ => ∃ (xs : List PV) (lots : List (List Int)), acc = lots.map tI ∧ lots.length = k ∧ (∀ l ∈ lots, l ∈ subs m.toNat) ∧ Hand xs ∧ ρ = [.val x, .own xs, .val z, .val (.int e), .val (.int g), a5, a6, a7, .val (.int s), .val (.int m), .val (.int c), .val f, .val w, .emp, a14, a15, a16]) (by rw [rng_len]; unfold big; omega) ⟨_, [], rfl, rfl, by simp, hx1, rfl⟩ ?_ ?_
        · rintro k u _ _ hu ⟨xs, lots, rfl, hk, hls, hx, rfl⟩
          ((first | rw [Pu.wo_nm (by simp)] | rw [if_pos (by simp), Pu.wo_some]; simp only [List.set_cons_succ, List.set_cons_zero]))
          array_get_dec
          rw [if_pos (by unfold small62; simp; omega)]
          refine w_compI (fun k acc ρ => ∃ (xs : List PV) (l : List Int), acc = l.map .int ∧ l ∈ subs k ∧ Hand xs ∧ ρ = [.val x, .own xs, .val z, .val (.int e), .val (.int g), a5, a6, a7, .val (.int s), .val (.int m), .val (.int c), .val f, .val w, .val u, a14, .emp, a16]) (by rw [rng_len]; unfold big; omega) ⟨_, [], rfl, by simp [subs], hx, rfl⟩ ?_ ?_
          · rintro j y _ _ hy ⟨xs, l, rfl, hl, hx, rfl⟩
            have hyj := rng_at hy
            subst hyj
            ((first | rw [Pu.wo_nm (by simp)] | rw [if_pos (by simp), Pu.wo_some]; simp only [List.set_cons_succ, List.set_cons_zero]))
            obtain ⟨d, ys, ed, _, _, hys⟩ := hd _ 2 hx (by omega) (by omega)
            array_get_dec
            rw [ed]
            array_get_dec
            split
            · refine ⟨ys, l ++ [(j : Int)], by simp, ?_, hys, rfl⟩
              unfold subs
              exact List.mem_append_right _ (List.mem_map.mpr ⟨l, hl, rfl⟩)
            · refine ⟨ys, l, rfl, ?_, hys, rfl⟩
              unfold subs
              exact List.mem_append_left _ hl
          · rintro _ _ ⟨xs, l, rfl, hl, hx, rfl⟩
            rw [rng_len] at hl
            array_get_dec
            refine ⟨xs, lots ++ [l], by simp, by simp [hk], ?_, hx, rfl⟩
            intro q hq
            rcases List.mem_append.mp hq with hq | hq
            · exact hls q hq
            · rw [List.mem_singleton] at hq; rw [hq]; exact hl
        · rintro _ _ ⟨xs, lots, rfl, hk, hls, hx, rfl⟩
          array_get_dec
          rw [rng_len] at hk
          refine ⟨xs, lots, ?_, hx, by omega, hls⟩
          rfl
      clear hx xs
      rintro _ ⟨xs, lots, rfl, hx, hl, hls⟩
      have hpr := hp hm.1 hm.2 hl hls
      refine s_cut (I := fun ρ => ρ = [.val x, .own xs, .val z, .val (.int e), .val (.int g), .val (.tup (lots.map tI)), .own [], a7, .val (.int s), .val (.int m), .val (.int c), .val f, .val w, a13, a14, a15, a16]) ?_ ?_
      · array_get_dec
        rw [if_pos (by decide)]
        trivial
      rintro _ rfl
      refine s_cut (I := fun ρ => ∃ a7 a14 a16, ρ = [.val x, .own xs, .val z, .val (.int e), .val (.int g), .val (.tup (lots.map tI)), .own (pairs lots m (rngL 0 m.toNat 1)), a7, .val (.int s), .val (.int m), .val (.int c), .val f, .val w, a13, a14, a15, a16]) ?_ ?_
      · clear hx hpr
        rw [s_for]
        array_get_dec
        rw [if_pos (by unfold small62; simp; omega)]
        have hn : m.toNat ≤ 5 := by omega
        have hri : ∀ x ∈ rngL 0 m.toNat 1, ∃ i, x = PV.int i ∧ 0 ≤ i := fun x hx => by
          obtain ⟨i, rfl, h, _⟩ := rng_int hx
          exact ⟨i, rfl, h⟩
        have hrl : (rngL 0 m.toNat 1).length ≤ 5 := by rw [rng_len]; exact hn
        have hrm : ∀ x ∈ rngL 0 m.toNat 1, ∃ i, x = PV.int i ∧ 0 ≤ i ∧ i < m := fun x hx => by
          obtain ⟨i, rfl, h, h'⟩ := rng_int hx
          exact ⟨i, rfl, h, by omega⟩
        generalize rngL 0 m.toNat 1 = rs at *
        refine w_for (fun k ρ => ∃ a7 a14 a16, ρ = [.val x, .own xs, .val z, .val (.int e), .val (.int g), .val (.tup (lots.map tI)), .own (pairs lots m (rs.take k)), a7, .val (.int s), .val (.int m), .val (.int c), .val f, .val w, a13, a14, a15, a16]) (j := 0) ⟨_, _, _, rfl⟩ ?_ ?_
        · rintro k u _ hx ⟨a7, a14, a16, rfl⟩
          have hxm := List.mem_of_getElem? hx
          obtain ⟨i, rfl, hi0, hi1⟩ := hrm u hxm
          rw [Nat.zero_add]
          ((first | rw [Pu.wo_nm (by simp)] | rw [if_pos (by simp), Pu.wo_some]; simp only [List.set_cons_succ, List.set_cons_zero]))
          rw [s_ext]
          array_get_dec
          simp
          refine ⟨⟨by unfold small62; simp; omega, by unfold small62; simp; omega⟩, ?_⟩
          have hb : (rngL (i + 1) (m - (i + 1)).toNat 1).length ≤ 5 := by rw [rng_len]; omega
          have hw : ∀ x ∈ rngL (i + 1) (m - (i + 1)).toNat 1, ∃ j, x = PV.int j := fun x hx => by
            obtain ⟨j, rfl, _⟩ := rng_int hx
            exact ⟨j, rfl⟩
          refine w_comp (colF lots i) (by unfold big; omega) (fun x hx => ?_) ?_
          · obtain ⟨j, rfl⟩ := hw x hx
            unfold Turn1
            simp only [wipeS]
            array_get_dec
            refine w_comp (both i j) (by rw [List.length_map]; unfold big; omega) (fun x hx => ?_) ?_
            · obtain ⟨o, _, rfl⟩ := List.mem_map.mp hx
              unfold Turn1
              simp only [wipeS]
              array_get_dec
              rw [in_int]
              array_get_dec
              rw [in_int]
              array_get_dec
              rw [both_tI]
              by_cases ha : i ∈ o <;> by_cases hb : j ∈ o <;> simp [ha, hb]
            · array_get_dec
              rw [fm_both]
              rfl
          · have hpl := pairs_len (lots := lots) (m := m) (n := 0) (by omega) (rs.take k) fun x hx => hri x (List.mem_of_mem_take hx)
            have h5 : (rs.take k).length ≤ 5 := Nat.le_trans (List.length_take_le' ..) hrl
            have h6 : (rowP lots m (.int i)).length ≤ 5 := Nat.le_trans (List.length_filterMap_le ..) hb
            simp only [rowP] at h6
            array_get_dec
            rw [if_pos (by unfold big; omega)]
            refine ⟨.val (.int i), a14, a16, ?_⟩
            unfold pairs
            rw [take_one hx, List.flatMap_append]
            simp
            rfl
        · rintro _ ⟨a7, a14, a16, rfl⟩
          refine ⟨a7, a14, a16, ?_⟩
          rw [Nat.zero_add, List.take_length]
      rintro _ ⟨a7, a14, a16, rfl⟩
      array_get_dec
      rw [hpr]
      array_get_dec
      rw [ne_pairs]
      array_get_dec
      exact ⟨_, _, _, _, _, _, _, _, _, _, _, _, _, _, _, _, _, rfl, hx⟩
    · exact fun ρ h => h
  rintro ρ hi
  array_get_dec
end Lk61
end

section
set_option maxRecDepth 100000
set_option maxHeartbeats 0
namespace Lk61
open PySem PySem.Spec PyProof.Rows L2 PySem.W Pu
def top (i : Nat) : Stmt := PySem.Challenge.pw_scriptoria_k61_whole_sheets_dealt.main.body.getD i (.Pass ⟨0, 0, 0, 0⟩)
abbrev s0 : Stmt := top 1
def d0 : PDef := ⟨["thing"], ["thing"], f0, ⟨("is_integer", none), "is_integer", "is_integer", defArgs s0, defBody s0, defScope s0, [], []⟩⟩
theorem b0 : BindsOk d0 := fun _ _ _ _ _ _ us hl => match us, hl with | [_], _ => rfl
abbrev s1 : Stmt := top 2
def d1 : PDef := ⟨["thing", "low", "high"], ["thing", "low", "high"], f1, ⟨("is_within", none), "is_within", "is_within", defArgs s1, defBody s1, defScope s1, [], []⟩⟩
theorem b1 : BindsOk d1 := fun _ _ _ _ _ _ us hl => match us, hl with | [_, _, _], _ => rfl
abbrev s2 : Stmt := top 3
def d2 : PDef := ⟨["thing", "low", "high"], ["thing", "low", "high"], f2, ⟨("is_sized", none), "is_sized", "is_sized", defArgs s2, defBody s2, defScope s2, [], []⟩⟩
theorem b2 : BindsOk d2 := fun _ _ _ _ _ _ us hl => match us, hl with | [_, _, _], _ => rfl
abbrev s3 : Stmt := top 4
def d3 : PDef := ⟨["thing", "many", "one", "other"], ["thing", "many"], f3, ⟨("is_lot", none), "is_lot", "is_lot", defArgs s3, defBody s3, defScope s3, [], []⟩⟩
theorem b3 : BindsOk d3 := fun _ _ _ _ _ _ us hl => match us, hl with | [_, _], _ => rfl
abbrev s4 : Stmt := top 14
def d4 : PDef := ⟨["s", "r", "m", "c"], ["s", "r", "m", "c"], f4, ⟨("check_deal", none), "check_deal", "check_deal", defArgs s4, defBody s4, defScope s4, [], []⟩⟩
theorem b4 : BindsOk d4 := fun _ _ _ _ _ _ us hl => match us, hl with | [_, _, _, _], _ => rfl
abbrev s5 : Stmt := top 15
def d5 : PDef := ⟨["m", "r", "found", "one", "lot"], ["m", "r"], f5, ⟨("lots_of", none), "lots_of", "lots_of", defArgs s5, defBody s5, defScope s5, [], []⟩⟩
theorem b5 : BindsOk d5 := fun _ _ _ _ _ _ us hl => match us, hl with | [_, _], _ => rfl
abbrev s6 : Stmt := top 16
def d6 : PDef := ⟨["load", "left", "r", "c", "one"], ["load", "left", "r", "c"], f6, ⟨("can_deal", none), "can_deal", "can_deal", defArgs s6, defBody s6, defScope s6, [], []⟩⟩
theorem b6 : BindsOk d6 := fun _ _ _ _ _ _ us hl => match us, hl with | [_, _, _, _], _ => rfl
abbrev s7 : Stmt := top 17
def d7 : PDef := ⟨["s", "r", "m", "c", "load", "found", "lot", "later", "reader", "one"], ["s", "r", "m", "c"], f7, ⟨("dealt", none), "dealt", "dealt", defArgs s7, defBody s7, defScope s7, [], []⟩⟩
theorem b7 : BindsOk d7 := fun _ _ _ _ _ _ us hl => match us, hl with | [_, _, _, _], _ => rfl
abbrev s8 : Stmt := top 18
def d8 : PDef := ⟨["m", "lots", "found", "one", "two", "lot"], ["m", "lots"], f8, ⟨("pairs_met", none), "pairs_met", "pairs_met", defArgs s8, defBody s8, defScope s8, [], []⟩⟩
theorem b8 : BindsOk d8 := fun _ _ _ _ _ _ us hl => match us, hl with | [_, _], _ => rfl
abbrev s9 : Stmt := top 20
def d9 : PDef := ⟨["script", "cells", "cell"], ["script"], f9, ⟨("_law_hand", none), "_law_hand", "_law_hand", defArgs s9, defBody s9, defScope s9, [], []⟩⟩
theorem b9 : BindsOk d9 := fun _ _ _ _ _ _ us hl => match us, hl with | [_], _ => rfl
abbrev s10 : Stmt := top 21
def d10 : PDef := ⟨["hand", "many", "number", "cell", "digit"], ["hand", "many"], f10, ⟨("_law_draw", none), "_law_draw", "_law_draw", defArgs s10, defBody s10, defScope s10, [], []⟩⟩
theorem b10 : BindsOk d10 := fun _ _ _ _ _ _ us hl => match us, hl with | [_, _], _ => rfl
abbrev s11 : Stmt := top 22
def d11 : PDef := ⟨["many", "size", "found", "number", "lot"], ["many", "size"], f11, ⟨("_law_lots", none), "_law_lots", "_law_lots", defArgs s11, defBody s11, defScope s11, [], []⟩⟩
theorem b11 : BindsOk d11 := fun _ _ _ _ _ _ us hl => match us, hl with | [_, _], _ => rfl
abbrev s12 : Stmt := top 23
def d12 : PDef := ⟨["sheets", "each", "many", "most", "rows", "sheet", "longer", "row", "lot", "reader", "other"], ["sheets", "each", "many", "most"], f12, ⟨("_law_deals", none), "_law_deals", "_law_deals", defArgs s12, defBody s12, defScope s12, [], []⟩⟩
theorem b12 : BindsOk d12 := fun _ _ _ _ _ _ us hl => match us, hl with | [_, _, _, _], _ => rfl
abbrev s13 : Stmt := top 24
def d13 : PDef := ⟨["script", "hand", "turn", "each", "lack", "lots", "pairs", "one", "sheets", "many", "most", "due", "told", "sheet", "other", "reader", "lot"], ["script"], f13, ⟨("law", none), "law", "law", defArgs s13, defBody s13, defScope s13, [], []⟩⟩
theorem b13 : BindsOk d13 := fun _ _ _ _ _ _ us hl => match us, hl with | [_], _ => rfl
def defs : List PDef := [d0, d1, d2, d3, d4, d5, d6, d7, d8, d9, d10, d11, d12, d13]
theorem binds : ∀ pd ∈ defs, BindsOk pd := by
  intro pd h
  simp only [defs, List.mem_cons, List.not_mem_nil, or_false] at h
  rcases h with rfl | rfl | rfl | rfl | rfl | rfl | rfl | rfl | rfl | rfl | rfl | rfl | rfl | rfl
  · exact b0
  · exact b1
  · exact b2
  · exact b3
  · exact b4
  · exact b5
  · exact b6
  · exact b7
  · exact b8
  · exact b9
  · exact b10
  · exact b11
  · exact b12
  · exact b13
def gl : List (Str × GK) := [(("DEAL" : Str), GK.cst (.str [100, 101, 97, 108])), (("MOST_MEN" : Str), GK.cst (.int (5))), (("MOST_SHEETS" : Str), GK.cst (.int (8))), (("NoLots" : Str), GK.cls 1), (("NoNumber" : Str), GK.cls 2), (("SHORT" : Str), GK.cst (.str [115, 104, 111, 114, 116])), (("_law_deals" : Str), GK.fn 12), (("_law_draw" : Str), GK.fn 10), (("_law_hand" : Str), GK.fn 9), (("_law_lots" : Str), GK.fn 11), (("abs" : Str), GK.free), (("all" : Str), GK.free), (("bool" : Str), GK.free), (("can_deal" : Str), GK.fn 6), (("check_deal" : Str), GK.fn 4), (("dealt" : Str), GK.fn 7), (("enumerate" : Str), GK.free), (("int" : Str), GK.free), (("is_integer" : Str), GK.fn 0), (("is_lot" : Str), GK.fn 3), (("is_sized" : Str), GK.fn 2), (("is_within" : Str), GK.fn 1), (("isinstance" : Str), GK.free), (("len" : Str), GK.free), (("lots_of" : Str), GK.fn 5), (("max" : Str), GK.free), (("min" : Str), GK.free), (("pairs_met" : Str), GK.fn 8), (("range" : Str), GK.free), (("sorted" : Str), GK.free), (("sum" : Str), GK.free), (("tuple" : Str), GK.free), (("zip" : Str), GK.free), (("law" : Str), GK.fn 13)]
def cs : List Str := ["ScribeError", "NoLots", "NoNumber"]
theorem chk : (defs.all fun pd => defOk gl (defs.map (·.fn)) pd) = true := by decide +kernel
theorem names : gnames defs cs gl = true := by decide +kernel
theorem plain : (defs.all fun pd => pd.d.dfl.isEmpty && pd.d.kwd.isEmpty) = true := by decide +kernel
end Lk61
end

section
set_option maxRecDepth 100000
set_option maxHeartbeats 0
namespace Lk61
open PySem PySem.Spec PyProof.Rows L2 PySem.W Pu
def loose0 : List PySem.Str := ["is_integer", "is_within", "is_sized", "is_lot", "check_deal", "lots_of", "can_deal", "dealt", "pairs_met", "_law_hand", "_law_draw", "_law_lots", "_law_deals", "ScribeError", "NoLots", "NoNumber", "MOST_SHEETS", "MOST_MEN", "DEAL", "SHORT"]
def loose : List PySem.Str := loose0
abbrev R : PySem.W.OpenRow := PySem.W.OpenLaw.row PySem.Challenge.rw_scriptoria_k61_whole_sheets_dealt
abbrev hk : PySem.W.Hook := hookP 4 (faOf gl) (defs.map (·.d))
def ob (s : PySem.W.SharedT) : He.AlD × Bool := obP 4 (faOf gl) (defs.map (·.d)) (HandSHeadRun.getT s)
theorem ob_eq (s : PySem.W.SharedT) : ob s = hk.obs s.abs := obP_eq (HandSHeadRun.getT_eq s)
theorem run (w : World) : HandSHeadRun.RunEq R (PySem.W.view R.prog [24]) hk ob 4000 loose w := by
  intro os
  kernel_rfl
end Lk61
end

section
set_option maxRecDepth 100000
set_option maxHeartbeats 0
namespace Lk61
open PySem PySem.Spec PyProof.Rows L2 PySem.W Pu
abbrev fuel : Nat := 1000
theorem law_at : gl.lookup ("law" : Str) = some (.fn 13) := by kernel_rfl
theorem main (ns : List Int) (hl : ns.length ≤ 63) : ∃ io, Pu.run (defs.map (·.fn)) fuel (7 + 1) 13 none [.scr (ns.map .int)] = .val (.bl true) io := ⟨[], law_ok hl⟩
end Lk61
open PySem PySem.W PySem.Calls PyProof.Rows
theorem PySem.Challenge.cw_scriptoria_k61_whole_sheets_dealt_holds : PySem.Challenge.rw_scriptoria_k61_whole_sheets_dealt.Holds := by
  w_on; o_law
  refine HandSHeadRun.head_any (r := OpenLaw.row PySem.Challenge.rw_scriptoria_k61_whole_sheets_dealt) (q := view (OpenLaw.row PySem.Challenge.rw_scriptoria_k61_whole_sheets_dealt).prog [24]) (H := Lk61.hk) (ob := Lk61.ob) (M := 4000) (loose := Lk61.loose) (d := HandSHeadRun.topDef (OpenLaw.row PySem.Challenge.rw_scriptoria_k61_whole_sheets_dealt).prog 24) (kwd := []) Lk61.ob_eq
    (by kernel_rfl) (fun s => by kernel_rfl) Lk61.run (by kernel_rfl) (by kernel_rfl) (by kernel_rfl) (by rfl) (by first | assumption | decide +kernel) (by decide +kernel) ⟨rfl, rfl, rfl, rfl, rfl, by decide +kernel⟩ ?hw ?hc
  case hw => w_witness2
  case hc =>
    refine Pu.walkW (row := PySem.Challenge.rw_scriptoria_k61_whole_sheets_dealt) (most := 63) (lev := 7 + 1) (nm := "script") (C := fun w => L2.CX ((PySem.Challenge.rw_scriptoria_k61_whole_sheets_dealt).prog) w) rfl (by decide) (by kernel_rfl) ⟨rfl, by decide, by decide⟩ ?F ?G
    case F =>
      intro w mg fa h Y G hmg0
      obtain ⟨K, KX, c, nl⟩ := Y
      have hmg : mg ("law" : PySem.Str) = some (.ref fa) := by
        have e : (HandSHeadRun.topDef (OpenLaw.row PySem.Challenge.rw_scriptoria_k61_whole_sheets_dealt).prog 24).name = ("law" : PySem.Str) := by kernel_rfl
        rw [← e]
        exact hmg0
      obtain ⟨fd, sp, h1, h2, h3⟩ := Pu.law_ends (P := (PySem.Challenge.rw_scriptoria_k61_whole_sheets_dealt).prog) (w := w) (fuel := Lk61.fuel) (k := 7) (lf := 13) (pd := Lk61.d13) (nmax := 63) KX G c nl hmg Lk61.law_at Lk61.names Lk61.plain Lk61.binds Lk61.chk rfl rfl ⟨rfl, rfl, rfl⟩ (by decide) Lk61.main
      exact ⟨K, fd, sp, KX, h1, h2, h3⟩
    case G => exact fun w H s e s' z => (let ⟨_, _, _, _, _, _, _, _, _, _, _, _, z⟩ := z; z)
end
