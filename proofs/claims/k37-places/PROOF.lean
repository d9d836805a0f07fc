import PyProof.Rows.All
import Wide.All
import OpenK.AllK
import Wide.FinOn
import HandS.ForMost
import HandS.ForExc
import HandS.TupAny
import HandS.TupMul
import HandS.Wide
import HandS.Style
import HandS.IsInst
import HandS.RaiseMore
import HandS.SortInts
import HandS.CallSlots
import HandS.TryOnly
import KE.LtData
import KE.SortData
import KE.GoesMore
import HandS.Conv
import PyProof.FitsInt
import PyProof.ReprLen
import PySem.Challenge.RW_drawnflat_k37_places_judged
set_option Elab.async false
set_option linter.all false
set_option maxRecDepth 100000
set_option maxHeartbeats 2000000
set_option autoImplicit false
namespace DL
open PySem PySem.Spec L2

/-! ### data that stand in the abstract heap -/
mutual
inductive Rp (K : PySem.W.Frag) (H : Hp) : V → PyData → Prop
  | non : Rp K H .non .none
  | bl (b : Bool) : Rp K H (.bl b) (.bool b)
  | int (i : Int) : Rp K H (.int i) (.int i)
  | str (x : Str) : Rp K H (.str x) (.str x)
  | lst {a : Addr} {xs : List V} {ds : List PyData} : H a = some (.lst xs) → RpAll K H xs ds → Rp K H (.ref a) (.list ds)
  | tup {a : Addr} {xs : List V} {ds : List PyData} : SqT K H a xs → RpAll K H xs ds → Rp K H (.ref a) (.tuple ds)
inductive RpAll (K : PySem.W.Frag) (H : Hp) : List V → List PyData → Prop
  | nil : RpAll K H [] []
  | cons {v : V} {vs : List V} {d : PyData} {ds : List PyData} : Rp K H v d → RpAll K H vs ds → RpAll K H (v :: vs) (d :: ds)
end

section
variable {K : PySem.W.Frag} {H H' : Hp}

theorem Same.seqT {a : Addr} {xs : List V} (e : Same H H') (h : SqT K H a xs) : SqT K H' a xs := by
  rcases h with (h | ⟨o, h⟩) | h
  · exact Or.inl (Or.inl (e _ _ h))
  · exact Or.inl (Or.inr ⟨o, e _ _ h⟩)
  · exact Or.inr h

mutual
theorem Rp.mono (e : Same H H') : ∀ (d : PyData) (v : V), Rp K H v d → Rp K H' v d
  | .none, _, h => by cases h; exact .non
  | .bool _, _, h => by cases h; exact .bl _
  | .int _, _, h => by cases h; exact .int _
  | .str _, _, h => by cases h; exact .str _
  | .list ds, _, h => by
    cases h with
    | lst s a => exact .lst (e _ _ s) (RpAll.mono e ds _ a)
  | .tuple ds, _, h => by
    cases h with
    | tup s a => exact .tup (Same.seqT e s) (RpAll.mono e ds _ a)
  | .dict _, _, h => by cases h
theorem RpAll.mono (e : Same H H') : ∀ (ds : List PyData) (vs : List V), RpAll K H vs ds → RpAll K H' vs ds
  | [], _, h => by cases h; exact .nil
  | d :: ds, _, h => by
    cases h with
    | cons a b => exact .cons (Rp.mono e d _ a) (RpAll.mono e ds _ b)
end

theorem RpAll.length : ∀ {vs : List V} {ds : List PyData}, RpAll K H vs ds → vs.length = ds.length
  | _, _, .nil => rfl
  | _, _, .cons _ t => by
    have := RpAll.length t
    simp [this]
theorem RpAll.get : ∀ {vs : List V} {ds : List PyData} {i : Nat} {d : PyData}, RpAll K H vs ds → ds[i]? = some d → ∃ v, vs[i]? = some v ∧ Rp K H v d
  | _, _, _, _, .nil, e => by simp at e
  | _, _, 0, _, .cons h _, e => by simp at e; subst e; exact ⟨_, rfl, h⟩
  | _, _, i + 1, _, .cons _ t, e => by
    obtain ⟨v, h1, h2⟩ := RpAll.get (i := i) t (by simpa using e)
    exact ⟨v, by simpa using h1, h2⟩
theorem RpAll.get' : ∀ {vs : List V} {ds : List PyData} {i : Nat} {v : V}, RpAll K H vs ds → vs[i]? = some v → ∃ d, ds[i]? = some d ∧ Rp K H v d
  | _, _, _, _, .nil, e => by simp at e
  | _, _, 0, _, .cons h _, e => by simp at e; subst e; exact ⟨_, rfl, h⟩
  | _, _, i + 1, _, .cons _ t, e => by
    obtain ⟨v, h1, h2⟩ := RpAll.get' (i := i) t (by simpa using e)
    exact ⟨v, by simpa using h1, h2⟩
theorem RpAll.append : ∀ {vs us : List V} {ds es : List PyData}, RpAll K H vs ds → RpAll K H us es → RpAll K H (vs ++ us) (ds ++ es)
  | _, _, _, _, .nil, s => s
  | _, _, _, _, .cons h t, s => .cons h (RpAll.append t s)
theorem RpAll.take : ∀ {vs : List V} {ds : List PyData} (n : Nat), RpAll K H vs ds → RpAll K H (vs.take n) (ds.take n)
  | _, _, 0, _ => by simpa using RpAll.nil
  | _, _, _ + 1, .nil => by simpa using RpAll.nil
  | _, _, n + 1, .cons h t => by simpa using RpAll.cons h (RpAll.take n t)
theorem RpAll.drop : ∀ {vs : List V} {ds : List PyData} (n : Nat), RpAll K H vs ds → RpAll K H (vs.drop n) (ds.drop n)
  | _, _, 0, h => by simpa using h
  | _, _, _ + 1, .nil => by simpa using RpAll.nil
  | _, _, n + 1, .cons _ t => by simpa using RpAll.drop n t
theorem RpAll.eraseIdx : ∀ {vs : List V} {ds : List PyData} (n : Nat), RpAll K H vs ds → RpAll K H (vs.eraseIdx n) (ds.eraseIdx n)
  | _, _, _, .nil => by simpa using RpAll.nil
  | _, _, 0, .cons _ t => by simpa using t
  | _, _, n + 1, .cons h t => by simpa using RpAll.cons h (RpAll.eraseIdx n t)
theorem RpAll.set : ∀ {vs : List V} {ds : List PyData} {v : V} {d : PyData} (n : Nat), RpAll K H vs ds → Rp K H v d → RpAll K H (vs.set n v) (ds.set n d)
  | _, _, _, _, _, .nil, _ => by simpa using RpAll.nil
  | _, _, _, _, 0, .cons _ t, r => by simpa using RpAll.cons r t
  | _, _, _, _, n + 1, .cons h t, r => by simpa using RpAll.cons h (RpAll.set n t r)
theorem RpAll.reverse : ∀ {vs : List V} {ds : List PyData}, RpAll K H vs ds → RpAll K H vs.reverse ds.reverse
  | _, _, .nil => by simpa using RpAll.nil
  | _, _, .cons h t => by
    simp only [List.reverse_cons]
    exact (RpAll.reverse t).append (.cons h .nil)
theorem RpAll.repl {vs : List V} {ds : List PyData} (h : RpAll K H vs ds) : ∀ n : Nat, RpAll K H (List.replicate n vs).flatten (List.replicate n ds).flatten
  | 0 => by simpa using RpAll.nil
  | n + 1 => by
    simp only [List.replicate_succ, List.flatten_cons]
    exact h.append (RpAll.repl h n)
end


/-! ### what is read of a heap -/
section
variable {X : Cx} {pins : List (Addr × Obj)} {σ : St} {H : Hp} {s : Shared}
mutual
theorem Rp.reads (I : Inv X pins σ H s) : ∀ (d : PyData) (v : V) (u : Value), Rp X.K H v d → RelV v u → ∃ as, Reads s.heap u d as
  | .none, _, _, h, r => by cases h; cases r; exact ⟨_, Reads.none⟩
  | .bool b, _, _, h, r => by cases h; cases r; exact ⟨_, Reads.bool b⟩
  | .int i, _, _, h, r => by
    cases h
    obtain ⟨t, e⟩ := r
    subst e
    exact ⟨_, Reads.int i t⟩
  | .str x, _, _, h, r => by
    cases h
    obtain ⟨t, e⟩ := r
    subst e
    exact ⟨_, Reads.str x t⟩
  | .list ds, _, _, h, r => by
    cases h with
    | lst hs ha =>
      cases r
      obtain ⟨its, rv, ⟨o, n, ho, hc, hd, hdt⟩, hz⟩ := I.list (SqL.of hs)
      obtain ⟨as, hr⟩ := RpAll.reads I ds _ its ha rv
      exact ⟨_, Reads.list ho hc hdt (by simpa using hr)⟩
  | .tuple ds, _, _, h, r => by
    cases h with
    | tup hs ha =>
      cases r
      obtain ⟨its, rv, ⟨o, ho, hc, n, hdt⟩, hz⟩ := I.tuple hs
      obtain ⟨as, hr⟩ := RpAll.reads I ds _ its ha rv
      exact ⟨_, Reads.tuple ho hc hdt (by simpa using hr)⟩
  | .dict kvs, _, _, h, r => by cases h
theorem RpAll.reads (I : Inv X pins σ H s) : ∀ (ds : List PyData) (vs : List V) (us : List Value), RpAll X.K H vs ds → Vals vs us → ∃ as, ReadsAll s.heap us ds as
  | [], _, _, h, r => by cases h; cases r; exact ⟨_, ReadsAll.nil⟩
  | d :: ds, _, _, h, r => by
    cases h with
    | cons h1 h2 =>
      cases r with
      | cons r1 r2 =>
        obtain ⟨as, q1⟩ := Rp.reads I d _ _ h1 r1
        obtain ⟨bs, q2⟩ := RpAll.reads I ds _ _ h2 r2
        exact ⟨_, ReadsAll.cons q1 q2⟩
end
end
end DL

set_option Elab.async false
set_option linter.all false
set_option maxRecDepth 100000
set_option maxHeartbeats 2000000
set_option autoImplicit false
namespace DL
open PySem PySem.Spec L2

/-- a value of the evaluator: data; what stands in an owned slot; a fresh list; the source -/
inductive EV where
  | fz (d : PyData)
  | bor (i : Nat)
  | lst (ds : List PyData)
  | src
structure Src where
  cells : List Int
  left : Int
  mixed : Int
  turn : Int
abbrev Wd := Option Src
abbrev Nv := List (Option EV)
structure Xn where
  c : Nat
  d : PyData
inductive Res (α : Type) where
  | stuck
  | ok (a : α) (e : Nv) (w : Wd)
  | exc (x : Xn) (e : Nv) (w : Wd)
abbrev Mo (α : Type) := Nv → Wd → Res α
def Res.bind {α β : Type} (r : Res α) (k : α → Nv → Wd → Res β) : Res β := match r with
  | .stuck => .stuck
  | .ok a e w => k a e w
  | .exc x e w => .exc x e w
@[simp] theorem Res.bind_ok {α β : Type} (a : α) (e : Nv) (w : Wd) (k : α → Nv → Wd → Res β) : (Res.ok a e w).bind k = k a e w := rfl
@[simp] theorem Res.bind_stuck {α β : Type} (k : α → Nv → Wd → Res β) : (Res.stuck : Res α).bind k = .stuck := rfl
@[simp] theorem Res.bind_exc {α β : Type} (x : Xn) (e : Nv) (w : Wd) (k : α → Nv → Wd → Res β) : (Res.exc x e w : Res α).bind k = .exc x e w := rfl

/-- tags of owners: below TT a slot; TS the source's dict, TC its list of cells -/
abbrev TT0 : Nat := 4096
abbrev TS : Nat := 5000
abbrev TC : Nat := 5001
abbrev Ow := Addr → Option Nat

structure SrcAt (H : Hp) (a c : Addr) (s : Src) : Prop where
  d : H a = some (.dK [(Sum.inr ("cells" : Str), .ref c), (Sum.inr ("left" : Str), .int s.left), (Sum.inr ("mixed" : Str), .int s.mixed), (Sum.inr ("turn" : Str), .int s.turn)])
  l : H c = some (.lst (s.cells.map V.int))
def WRel (ow : Ow) (H : Hp) : Wd → Prop
  | none => ∀ a, ow a ≠ some TS ∧ ow a ≠ some TC
  | some s => ∃ a c, ow a = some TS ∧ ow c = some TC ∧ (∀ b, ow b = some TS → b = a) ∧ (∀ b, ow b = some TC → b = c) ∧ SrcAt H a c s

section
variable (K : PySem.W.Frag)
def SlotR (F : Hp) (ow : Ow) (H : Hp) (i : Nat) (v : V) : EV → Prop
  | .fz d => Rp K F v d
  | .lst ds => ∃ p vs, v = .ref p ∧ ow p = some i ∧ H p = some (.lst vs) ∧ RpAll K F vs ds
  | .src => ∃ p, v = .ref p ∧ ow p = some TS
  | .bor _ => False
structure Rel (F : Hp) (ow : Ow) (σ : St) (H : Hp) (env : Nv) (w : Wd) : Prop where
  sub : Same F H
  dis : ∀ a, ow a ≠ none → F a = none
  trk : ∀ a, ow a ≠ none → H a ≠ none
  len : σ.length = env.length
  lt : env.length ≤ TT0
  slot : ∀ i e, env[i]? = some (some e) → ∃ v, σ[i]? = some (some v) ∧ SlotR K F ow H i v e
  wld : WRel ow H w
/-- a value at hand; H0 the heap at the base -/
def RV (H0 F : Hp) (ow : Ow) (σ : St) (H : Hp) (v : V) : EV → Prop
  | .fz d => Rp K F v d
  | .bor i => σ[i]? = some (some v)
  | .lst ds => ∃ p vs, v = .ref p ∧ H0 p = none ∧ ow p = none ∧ F p = none ∧ H p = some (.lst vs) ∧ RpAll K F vs ds
  | .src => ∃ p, v = .ref p ∧ ow p = some TS
end

structure Stp (F : Hp) (ow : Ow) (H F' : Hp) (ow' : Ow) (H' : Hp) : Prop where
  fz : Same F F'
  fr : ∀ a o, ow a = none → H a = some o → H' a = some o
  nF : ∀ a, F' a ≠ none → F a ≠ none ∨ ow a ≠ none ∨ H a = none
  nO : ∀ a, ow' a ≠ none → ow a ≠ none ∨ H a = none
  tg : ∀ a t, ow a = some t → TT0 ≤ t → ow' a = some t
  tr : ∀ a, H a ≠ none → H' a ≠ none

section
variable {K : PySem.W.Frag} {F F1 F2 : Hp} {ow ow1 ow2 : Ow} {H H0 H1 H2 : Hp} {σ : St} {env env1 : Nv} {w w1 : Wd}
theorem Stp.refl : Stp F ow H F ow H := ⟨Same.refl _, fun _ _ _ h => h, fun _ h => .inl h, fun _ h => .inl h, fun _ _ h _ => h, fun _ h => h⟩
theorem Stp.trans (a : Stp F ow H F1 ow1 H1) (b : Stp F1 ow1 H1 F2 ow2 H2) : Stp F ow H F2 ow2 H2 where
  fz := a.fz.trans b.fz
  fr := fun x o h1 h2 => b.fr x o (by
    cases q : ow1 x with
    | none => rfl
    | some t => rcases a.nO x (by rw [q]; simp) with z | z
                · exact absurd h1 z
                · rw [z] at h2; cases h2) (a.fr x o h1 h2)
  nF := fun x h => by
    rcases b.nF x h with z | z | z
    · exact a.nF x z
    · rcases a.nO x z with y | y
      · exact .inr (.inl y)
      · exact .inr (.inr y)
    · by_cases q : H x = none
      · exact .inr (.inr q)
      · exact absurd z (a.tr x q)
  nO := fun x h => by
    rcases b.nO x h with z | z
    · exact a.nO x z
    · by_cases q : H x = none
      · exact .inr q
      · exact absurd z (a.tr x q)
  tg := fun x t h1 h2 => b.tg x t (a.tg x t h1 h2) h2
  tr := fun x h => b.tr x (a.tr x h)
theorem Stp.free (a : Stp F ow H F1 ow1 H1) {x : Addr} (h : H1 x = none) : H x = none := by
  by_cases q : H x = none
  · exact q
  · exact absurd h (a.tr x q)
theorem Stp.owN (a : Stp F ow H F1 ow1 H1) {x : Addr} {o : HO} (h1 : ow x = none) (h2 : H x = some o) : ow1 x = none := by
  cases q : ow1 x with
  | none => rfl
  | some t =>
    rcases a.nO x (by rw [q]; simp) with z | z
    · exact absurd h1 z
    · rw [z] at h2; cases h2
theorem Stp.frN (a : Stp F ow H F1 ow1 H1) {x : Addr} {o : HO} (h0 : F x = none) (h1 : ow x = none) (h2 : H x = some o) : F1 x = none := by
  by_cases q : F1 x = none
  · exact q
  · rcases a.nF x q with z | z | z
    · exact absurd h0 z
    · exact absurd h1 z
    · rw [z] at h2; cases h2
/-- a value at hand stays -/
theorem RV.step {v : V} {e : EV} (h : RV K H0 F ow σ H v e) (s : Stp F ow H F1 ow1 H1) : RV K H0 F1 ow1 σ H1 v e := by
  cases e with
  | fz d => exact Rp.mono s.fz d v h
  | bor i => exact h
  | lst ds =>
    obtain ⟨p, vs, e, h0, h1, h2, h3, h4⟩ := h
    exact ⟨p, vs, e, h0, s.owN h1 h3, s.frN h2 h1 h3, s.fr p _ h1 h3, RpAll.mono s.fz ds vs h4⟩
  | src =>
    obtain ⟨p, e, h1⟩ := h
    exact ⟨p, e, s.tg p _ h1 (by decide)⟩
/-- seen from an earlier base -/
theorem RV.base {v : V} {e : EV} (s : Stp F ow H F1 ow1 H1) (h : RV K H1 F2 ow2 σ H2 v e) : RV K H F2 ow2 σ H2 v e := by
  cases e with
  | fz d => exact h
  | bor i => exact h
  | lst ds =>
    obtain ⟨p, vs, e, h0, h1, h2, h3, h4⟩ := h
    exact ⟨p, vs, e, s.free h0, h1, h2, h3, h4⟩
  | src => exact h

/-- a wish of a result: Y tells what the value is -/
def OutG {α β : Type} (K : PySem.W.Frag) (Y : Hp → Hp → Ow → Hp → β → α → Prop) (XR : Hp → Hp → Xn → Value → Option Addr → Prop) (F : Hp) (ow : Ow) (σ : St) (H : Hp) (r : Res α) (Q : β → Hp → Prop) (W : WX) : Prop := match r with
  | .stuck => False
  | .ok a env w => ∀ F' ow' H' b, Stp F ow H F' ow' H' → Rel K F' ow' σ H' env w → Y H F' ow' H' b a → Q b H'
  | .exc x env w => ∀ F' ow' H' cls d, Stp F ow H F' ow' H' → Rel K F' ow' σ H' env w → XR F' H' x cls d → W cls d σ H'

section
variable {α β γ δ : Type} {Y : Hp → Hp → Ow → Hp → β → α → Prop} {Z : Hp → Hp → Ow → Hp → δ → γ → Prop} {XR : Hp → Hp → Xn → Value → Option Addr → Prop} {W : WX}
theorem OutG.step {r : Res α} {Q : β → Hp → Prop} (hY : ∀ F2 ow2 H2 b a, Y H1 F2 ow2 H2 b a → Y H F2 ow2 H2 b a) (s : Stp F ow H F1 ow1 H1) (h : OutG K Y XR F ow σ H r Q W) : OutG K Y XR F1 ow1 σ H1 r Q W := by
  cases r with
  | stuck => exact h
  | ok a env w => exact fun F' ow' H' b s' R y => h F' ow' H' b (s.trans s') R (hY _ _ _ _ _ y)
  | exc x env w => exact fun F' ow' H' cls d s' R y => h F' ow' H' cls d (s.trans s') R y
theorem OutG.mono {r : Res α} {Q Q' : β → Hp → Prop} (h : OutG K Y XR F ow σ H r Q W) (m : ∀ b H', Q b H' → Q' b H') : OutG K Y XR F ow σ H r Q' W := by
  cases r with
  | stuck => exact h
  | ok a env w => exact fun F' ow' H' b s' R y => m _ _ (h F' ow' H' b s' R y)
  | exc x env w => exact h
/-- one after another -/
theorem OutG.bind {r : Res α} {k : α → Nv → Wd → Res γ} {Q : δ → Hp → Prop} (hZ : ∀ F1 ow1 H1, Stp F ow H F1 ow1 H1 → ∀ F2 ow2 H2 b a, Z H1 F2 ow2 H2 b a → Z H F2 ow2 H2 b a) (h : OutG K Z XR F ow σ H (r.bind k) Q W) :
    OutG K Y XR F ow σ H r (fun b H1 => ∃ F1 ow1 a env1 w1, Stp F ow H F1 ow1 H1 ∧ Rel K F1 ow1 σ H1 env1 w1 ∧ Y H F1 ow1 H1 b a ∧ r = .ok a env1 w1 ∧ OutG K Z XR F1 ow1 σ H1 (k a env1 w1) Q W) W := by
  cases r with
  | stuck => exact h
  | ok a env w => exact fun F' ow' H' b s' R y => ⟨F', ow', a, env, w, s', R, y, rfl, OutG.step (hZ _ _ _ s') s' h⟩
  | exc x env w => exact h
end
end

/-! ### what becomes of the state -/
section
variable {K : PySem.W.Frag} {F : Hp} {ow : Ow} {H : Hp} {σ : St} {env : Nv} {w : Wd} {p : Addr} {o : HO}
theorem Same.upd (hp : H p = none) : Same H (upd H p o) := fun b u e => by rw [upd_ne (ne_of_none e hp)]; exact e
theorem Same.upd2 {F H : Hp} (s : Same F H) (hp : H p = none) : Same (L2.upd F p o) (L2.upd H p o) := fun b u e => by
  by_cases h : b = p
  · subst h; rw [upd_same] at e ⊢; exact e
  · rw [upd_ne h] at e ⊢; exact s b u e
theorem Rel.owF (R : Rel K F ow σ H env w) (hp : H p = none) : ow p = none := by
  cases q : ow p with
  | none => rfl
  | some t => exact absurd hp (R.trk p (by rw [q]; simp))
theorem Rel.frF (R : Rel K F ow σ H env w) (hp : H p = none) : F p = none := by
  cases q : F p with
  | none => rfl
  | some t => rw [R.sub p t q] at hp; cases hp
theorem SlotR.mono {F F' H H' : Hp} {ow ow' : Ow} {i : Nat} {v : V} {e : EV} (s : Same F F') (ho : ∀ a t, ow a = some t → (t = i ∨ t = TS) → ow' a = some t) (hh : ∀ a u, ow a = some i → H a = some u → H' a = some u) (h : SlotR K F ow H i v e) : SlotR K F' ow' H' i v e := by
  cases e with
  | fz d => exact Rp.mono s d v h
  | bor i => exact h
  | lst ds =>
    obtain ⟨p, vs, e, h1, h2, h3⟩ := h
    exact ⟨p, vs, e, ho p i h1 (.inl rfl), hh p _ h1 h2, RpAll.mono s ds vs h3⟩
  | src =>
    obtain ⟨p, e, h1⟩ := h
    exact ⟨p, e, ho p TS h1 (.inr rfl)⟩
theorem WRel.mono {ow : Ow} {H H' : Hp} {w : Wd} (h : WRel ow H w) (k : ∀ a u, ow a ≠ none → H a = some u → H' a = some u) : WRel ow H' w := by
  cases w with
  | none => exact h
  | some s =>
    obtain ⟨a, c, h1, h2, h3, h4, h5⟩ := h
    exact ⟨a, c, h1, h2, h3, h4, k a _ (by rw [h1]; simp) h5.d, k c _ (by rw [h2]; simp) h5.l⟩
/-- a new frozen object -/
theorem Rel.newF (R : Rel K F ow σ H env w) (hp : H p = none) : Rel K (upd F p o) ow σ (upd H p o) env w ∧ Stp F ow H (upd F p o) ow (upd H p o) := by
  have h1 := R.owF hp
  have h2 := R.frF hp
  have kk : ∀ a u, H a = some u → upd H p o a = some u := Same.upd hp
  refine ⟨⟨Same.upd2 R.sub hp, fun a h => ?_, fun a h => ?_, R.len, R.lt, fun i e h => ?_, R.wld.mono fun a u _ => kk a u⟩, Same.upd h2, fun a u _ => kk a u, fun a h => ?_, fun a h => .inl h, fun a t h _ => h, fun a h => ?_⟩
  · rw [upd_ne (by intro e; subst e; exact h h1)]; exact R.dis a h
  · rw [upd_ne (by intro e; subst e; exact h h1)]; exact R.trk a h
  · obtain ⟨v, e1, e2⟩ := R.slot i e h
    exact ⟨v, e1, e2.mono (Same.upd h2) (fun _ _ q _ => q) fun a u _ => kk a u⟩
  · by_cases q : a = p
    · subst q; exact .inr (.inr hp)
    · rw [upd_ne q] at h; exact .inl h
  · by_cases q : a = p
    · subst q; exact absurd hp h
    · rw [upd_ne q]; exact h
/-- a new object that nobody owns -/
theorem Rel.newT (R : Rel K F ow σ H env w) (hp : H p = none) : Rel K F ow σ (upd H p o) env w ∧ Stp F ow H F ow (upd H p o) := by
  have h1 := R.owF hp
  have kk : ∀ a u, H a = some u → upd H p o a = some u := Same.upd hp
  refine ⟨⟨R.sub.trans (Same.upd hp), R.dis, fun a h => ?_, R.len, R.lt, fun i e h => ?_, R.wld.mono fun a u _ => kk a u⟩, Same.refl _, fun a u _ => kk a u, fun a h => .inl h, fun a h => .inl h, fun a t h _ => h, fun a h => ?_⟩
  · rw [upd_ne (by intro e; subst e; exact h h1)]; exact R.trk a h
  · obtain ⟨v, e1, e2⟩ := R.slot i e h
    exact ⟨v, e1, e2.mono (Same.refl _) (fun _ _ q _ => q) fun a u _ => kk a u⟩
  · by_cases q : a = p
    · subst q; exact absurd hp h
    · rw [upd_ne q]; exact h

/-- what data a value tells, where it stands -/
def dval (env : Nv) : EV → Option PyData
  | .fz d => some d
  | .bor i => match env[i]? with
    | some (some (.lst ds)) => some (.list ds)
    | some (some (.fz d)) => some d
    | _ => none
  | .lst ds => some (.list ds)
  | .src => none
theorem RV.data {H0 : Hp} {v : V} {e : EV} {d : PyData} (R : Rel K F ow σ H env w) (h : RV K H0 F ow σ H v e) (hd : dval env e = some d) : Rp K H v d := by
  cases e with
  | fz d' =>
    simp only [dval, Option.some.injEq] at hd
    subst hd
    exact Rp.mono R.sub _ v h
  | bor i =>
    simp only [dval] at hd
    split at hd
    · rename_i ds he
      obtain ⟨v', e1, p, vs, e2, _, e3, e4⟩ := R.slot i _ he
      have : v = v' := Option.some.inj (Option.some.inj ((show σ[i]? = some (some v) from h).symm.trans e1))
      subst this
      cases hd
      subst e2
      exact .lst e3 (RpAll.mono R.sub ds vs e4)
    · rename_i d' he
      obtain ⟨v', e1, e2⟩ := R.slot i _ he
      have : v = v' := Option.some.inj (Option.some.inj ((show σ[i]? = some (some v) from h).symm.trans e1))
      subst this
      cases hd
      exact Rp.mono R.sub _ v e2
    · cases hd
  | lst ds =>
    simp only [dval, Option.some.injEq] at hd
    obtain ⟨p, vs, e2, _, _, _, e3, e4⟩ := h
    subst hd
    subst e2
    exact .lst e3 (RpAll.mono R.sub ds vs e4)
  | src => cases hd
/-- a list or tuple: its items are frozen -/
theorem RV.items {H0 : Hp} {v : V} {e : EV} {ds : List PyData} (R : Rel K F ow σ H env w) (h : RV K H0 F ow σ H v e) (hd : dval env e = some (.list ds)) : ∃ p vs, v = .ref p ∧ H p = some (.lst vs) ∧ RpAll K F vs ds := by
  cases e with
  | fz d' =>
    simp only [dval, Option.some.injEq] at hd
    subst hd
    cases (show Rp K F v (.list ds) from h) with
    | lst s a => exact ⟨_, _, rfl, R.sub _ _ s, a⟩
  | bor i =>
    simp only [dval] at hd
    split at hd
    · rename_i ds' he
      obtain ⟨v', e1, p, vs, e2, _, e3, e4⟩ := R.slot i _ he
      have : v = v' := Option.some.inj (Option.some.inj ((show σ[i]? = some (some v) from h).symm.trans e1))
      subst this
      cases hd
      exact ⟨p, vs, e2, e3, e4⟩
    · rename_i d' he
      obtain ⟨v', e1, e2⟩ := R.slot i _ he
      have : v = v' := Option.some.inj (Option.some.inj ((show σ[i]? = some (some v) from h).symm.trans e1))
      subst this
      cases hd
      cases (show Rp K F v (.list ds) from e2) with
      | lst s a => exact ⟨_, _, rfl, R.sub _ _ s, a⟩
    · cases hd
  | lst ds' =>
    simp only [dval, Option.some.injEq, PyData.list.injEq] at hd
    obtain ⟨p, vs, e2, _, _, _, e3, e4⟩ := h
    subst hd
    exact ⟨p, vs, e2, e3, e4⟩
  | src => cases hd
theorem RV.itemsT {H0 : Hp} {v : V} {e : EV} {ds : List PyData} (R : Rel K F ow σ H env w) (h : RV K H0 F ow σ H v e) (hd : dval env e = some (.tuple ds)) : ∃ p vs, v = .ref p ∧ SqT K F p vs ∧ RpAll K F vs ds := by
  cases e with
  | fz d' =>
    simp only [dval, Option.some.injEq] at hd
    subst hd
    cases (show Rp K F v (.tuple ds) from h) with
    | tup s a => exact ⟨_, _, rfl, s, a⟩
  | bor i =>
    simp only [dval] at hd
    split at hd
    · cases hd
    · rename_i d' he
      obtain ⟨v', e1, e2⟩ := R.slot i _ he
      have : v = v' := Option.some.inj (Option.some.inj ((show σ[i]? = some (some v) from h).symm.trans e1))
      subst this
      cases hd
      cases (show Rp K F v (.tuple ds) from e2) with
      | tup s a => exact ⟨_, _, rfl, s, a⟩
    · cases hd
  | lst ds' => cases hd
  | src => cases hd
end
end DL

set_option Elab.async false
set_option linter.all false
set_option maxRecDepth 100000
set_option maxHeartbeats 2000000
set_option autoImplicit false
namespace DL
open PySem PySem.Spec L2

/-! ### the small language -/
inductive Bop where | add | sub | mul | fdiv | mod | pow
  deriving DecidableEq
inductive Cop where | lt | le | gt | ge | eq | ne | isin | notin | isn | notn
  deriving DecidableEq
inductive Bi where | len | int | abs | min1 | max1 | min2 | max2 | sorted | tuple | list | any | all | repr | sum
  deriving DecidableEq
inductive Ty where | int | bool | str | tuple | list | dict
  deriving DecidableEq
mutual
inductive Tg where | nm (i : Nat) | tp (ts : Tgs)
inductive Tgs where | nil | cons (t : Tg) (ts : Tgs)
end
mutual
inductive E where
  | var (i : Nat)
  | cI (i : Int)
  | cS (s : Str)
  | cN
  | cB (b : Bool)
  | neg (a : E)
  | tup (es : Es)
  | lst (es : Es)
  | bin (op : Bop) (a b : E)
  | cmp (op : Cop) (a b : E)
  | chn (op op2 : Cop) (a b c : E)
  | and (es : Es)
  | or (es : Es)
  | not (a : E)
  | ite (t a b : E)
  | sub (a i : E)
  | slc (a : E) (lo hi : OE)
  | rev (a : E)
  | call (f : Nat) (es : Es)
  | bi (b : Bi) (es : Es)
  | isi (a : E) (t : Ty)
  | index (a b : E)
  | pop (i : Nat)
  | popAt (i : Nat) (a : E)
  | lc (own : List (Str × Nat)) (tg : Tg) (it : IE) (ifs : Es) (elt : E)
inductive Es where | nil | cons (e : E) (es : Es)
inductive OE where | no | yes (e : E)
inductive IE where | seq (e : E) | rng1 (a : E) | rng2 (a b : E) | enm (e : E) | zp (a b : E)
end
mutual
inductive S where
  | asg (tg : Tg) (e : E)
  | set (i : Nat) (e : E)
  | par (i j : Nat) (a b : E)
  | par3 (i j k : Nat) (a b c : E)
  | exp (e : E)
  | app (i : Nat) (e : E)
  | ext (i : Nat) (e : E)
  | setIx (i : Nat) (k e : E)
  | ret (e : E)
  | ife (t : E) (a b : Sl)
  | whl (t : E) (b : Sl)
  | for_ (tg : Tg) (it : IE) (b : Sl)
  | pas | brk | cnt
  | nev
inductive Sl where | nil | cons (s : S) (r : Sl)
end

/-! ### what the operations give -/
def itemsOf : PyData → Option (List PyData)
  | .list ds => some ds
  | .tuple ds => some ds
  | _ => none
def binD : Bop → PyData → PyData → Option EV
  | .add, .int i, .int j => some (.fz (.int (i + j)))
  | .add, .str x, .str y => if x.length + y.length ≤ sizeLine then some (.fz (.str (x ++ y))) else none
  | .add, .tuple xs, .tuple ys => if xs.length + ys.length ≤ sizeLine then some (.fz (.tuple (xs ++ ys))) else none
  | .add, .list xs, .list ys => if xs.length + ys.length ≤ sizeLine then some (.lst (xs ++ ys)) else none
  | .sub, .int i, .int j => some (.fz (.int (i - j)))
  | .mul, .int i, .int j => if i.natAbs.log2 + j.natAbs.log2 < 1000000 then some (.fz (.int (i * j))) else none
  | .mul, .list xs, .int k => if -(2 ^ 63) ≤ k ∧ k < 2 ^ 63 ∧ xs.length * k.toNat ≤ sizeLine then some (.lst (List.replicate k.toNat xs).flatten) else none
  | .fdiv, .int i, .int j => if 0 < j ∧ j.natAbs.log2 < 9000 then some (.fz (.int (i / j))) else none
  | .mod, .int i, .int j => if 0 < j then some (.fz (.int (i % j))) else none
  | .pow, .int i, .int j => if 0 ≤ j ∧ j ≤ 1000000 ∧ i.natAbs < 2 ^ 64 then some (.fz (.int (i ^ j.toNat))) else none
  | _, _, _ => none
def okEq (d e : PyData) : Bool := SeqAt.shaped d && SeqAt.shaped e
def cmpD : Cop → PyData → PyData → Option Bool
  | .lt, .int i, .int j => some (decide (i < j))
  | .le, .int i, .int j => some (decide (i ≤ j))
  | .gt, .int i, .int j => some (decide (j < i))
  | .ge, .int i, .int j => some (decide (j ≤ i))
  | .eq, d, e => if okEq d e then some (PyData.eqv d e) else none
  | .ne, d, e => if okEq d e then some (!PyData.eqv d e) else none
  | .isin, d, .list ds => if okEq d (.list ds) then some (ds.any fun z => PyData.eqv z d) else none
  | .isin, d, .tuple ds => if okEq d (.tuple ds) then some (ds.any fun z => PyData.eqv z d) else none
  | .notin, d, .list ds => if okEq d (.list ds) then some (!ds.any fun z => PyData.eqv z d) else none
  | .notin, d, .tuple ds => if okEq d (.tuple ds) then some (!ds.any fun z => PyData.eqv z d) else none
  | .isn, d, .none => some (match d with | .none => true | _ => false)
  | .notn, d, .none => some (match d with | .none => false | _ => true)
  | _, _, _ => none
def bools : List PyData → Option (List Bool)
  | [] => some []
  | .bool b :: r => (bools r).map (b :: ·)
  | _ => none
def intsL : List PyData → Option (List Int)
  | [] => some []
  | .int b :: r => (intsL r).map (b :: ·)
  | _ => none
def minI : Int → List Int → Int
  | a, [] => a
  | a, b :: r => minI (if b < a then b else a) r
def maxI : Int → List Int → Int
  | a, [] => a
  | a, b :: r => maxI (if a < b then b else a) r
def sortShape (ds : List PyData) : Bool := (ds.all fun d => match d with
  | .tuple (_ :: _) => true
  | _ => false) || (ds.all fun d => match d with
  | .none => false
  | .tuple _ => false
  | _ => true)
def sortOk (ds : List PyData) : Bool := sortShape ds && (ds.all fun a => ds.all fun b => PySem.W.alike a b) && (ds.all fun d => decide (d.depth ≤ 8)) && decide (ds.length ≤ sizeLine)
def reprOk (d : PyData) : Bool := d.showable && !d.hasDict && decide (d.depth ≤ 60) && decide (d.shown.length ≤ sizeLine)
def biD : Bi → List PyData → Option EV
  | .len, [.list ds] => some (.fz (.int ds.length))
  | .len, [.tuple ds] => some (.fz (.int ds.length))
  | .int, [.int i] => some (.fz (.int i))
  | .int, [.bool b] => some (.fz (.int (if b then 1 else 0)))
  | .abs, [.int i] => some (.fz (.int (if i < 0 then -i else i)))
  | .min2, [.int i, .int j] => some (.fz (.int (if j < i then j else i)))
  | .max2, [.int i, .int j] => some (.fz (.int (if j > i then j else i)))
  | .sorted, [.list ds] => if sortOk ds then some (.lst (ds.mergeSort (PySem.W.dataLe false id))) else none
  | .sorted, [.tuple ds] => if sortOk ds then some (.lst (ds.mergeSort (PySem.W.dataLe false id))) else none
  | .tuple, [.list ds] => some (.fz (.tuple ds))
  | .tuple, [.tuple ds] => some (.fz (.tuple ds))
  | .list, [.list ds] => some (.lst ds)
  | .list, [.tuple ds] => some (.lst ds)
  | .any, [.list ds] => (bools ds).map fun bs => .fz (.bool (bs.any id))
  | .all, [.list ds] => (bools ds).map fun bs => .fz (.bool (bs.all id))
  | .repr, [d] => if reprOk d then some (.fz (.str d.shown)) else none
  | _, _ => none
def isiD : Ty → PyData → Bool
  | .int, .int _ => true
  | .int, .bool _ => true
  | .bool, .bool _ => true
  | .str, .str _ => true
  | .tuple, .tuple _ => true
  | .list, .list _ => true
  | .dict, .dict _ => true
  | _, _ => false
def subD : PyData → PyData → Option PyData
  | .list ds, .int i => atI ds i
  | .tuple ds, .int i => atI ds i
  | _, _ => none
/-- a part of a list, Python's bounds -/
def cutD (ds : List PyData) (lo hi : Option Int) : List PyData := (ds.drop (HT.sIx ds.length 0 lo)).take (HT.sIx ds.length ds.length hi - HT.sIx ds.length 0 lo)
def slcD : PyData → Option Int → Option Int → Option EV
  | .list ds, lo, hi => some (.lst (cutD ds lo hi))
  | .tuple ds, lo, hi => some (.fz (.tuple (cutD ds lo hi)))
  | _, _, _ => none
def revD : PyData → Option EV
  | .list ds => some (.lst ds.reverse)
  | _ => none
def rngL (lo : Int) (n : Nat) : List PyData := (List.range n).map fun (i : Nat) => .int (lo + (i : Int))
def enmL (ds : List PyData) : List PyData := ds.zipIdx.map fun p => .tuple [.int p.2, p.1]
def zipL (ds es : List PyData) : List PyData := (ds.zip es).map fun p => .tuple [p.1, p.2]

/-! ### letting go of a slot -/
def esc1 (env : Nv) : EV → Option (PyData × Nv)
  | .fz d => some (d, env)
  | .bor i => match env[i]? with
    | some (some (.lst ds)) => some (.list ds, env.set i (some (.fz (.list ds))))
    | some (some (.fz d)) => some (d, env)
    | _ => none
  | .lst ds => some (.list ds, env)
  | .src => none
def escD (env : Nv) : List EV → Option (List PyData × Nv)
  | [] => some ([], env)
  | e :: es => match esc1 env e with
    | none => none
    | some (d, e1) => match escD e1 es with
      | none => none
      | some (ds, e2) => some (d :: ds, e2)
/-- arguments of a def: data, or the source -/
def escA (env : Nv) : List EV → Option (List EV × Nv)
  | [] => some ([], env)
  | .src :: es => match escA env es with
    | none => none
    | some (ds, e2) => some (.src :: ds, e2)
  | e :: es => match esc1 env e with
    | none => none
    | some (d, e1) => match escA e1 es with
      | none => none
      | some (ds, e2) => some (.fz d :: ds, e2)

mutual
def asgT (env : Nv) : Tg → PyData → Option Nv
  | .nm i, d => if i < env.length then some (env.set i (some (.fz d))) else none
  | .tp ts, .tuple ds => asgTs env ts ds
  | .tp ts, .list ds => asgTs env ts ds
  | .tp _, _ => none
def asgTs (env : Nv) : Tgs → List PyData → Option Nv
  | .nil, [] => some env
  | .cons t ts, d :: ds => match asgT env t d with
    | none => none
    | some e1 => asgTs e1 ts ds
  | _, _ => none
end

/-- a def's end -/
inductive CRes where
  | stuck
  | ok (e : EV) (w : Wd)
  | exc (x : Xn) (w : Wd)
/-- a call's result is the caller's -/
def endC (e2 : Nv) : CRes → Res EV
  | .ok e w => .ok e e2 w
  | .exc x w => .exc x e2 w
  | .stuck => .stuck
abbrev Fns := Nat → List EV → Wd → CRes

def wipeE (env : Nv) : List Nat → Nv
  | [] => env
  | v :: vs => (wipeE env vs).set v none
/-- behind a block: its own names as they were (if they were data) -/
def keepE (env0 env : Nv) : List Nat → Nv
  | [] => env
  | v :: vs => (keepE env0 env vs).set v (match env0[v]? with | some (some (.fz d)) => some (.fz d) | _ => none)

def Res.lift {α β : Type} (r : Res α) (f : α → Nv → Option (β × Nv)) : Res β := r.bind fun a e w => match f a e with
  | none => .stuck
  | some (b, e2) => .ok b e2 w
def tst (r : Res EV) : Res Bool := r.bind fun v e w => match v with
  | .fz (.bool b) => .ok b e w
  | _ => .stuck
def pick1 (o : Option EV) (env : Nv) (w : Wd) : Res EV := match o with
  | none => .stuck
  | some e => .ok e env w
/-- a list that is gone through stands in its slot as it stood -/
def Held (hd : Option (Nat × List PyData)) (env : Nv) : Prop := match hd with
  | none => True
  | some (i, ds) => env[i]? = some (some (.lst ds))
open Classical in
/-- the items of a comprehension, one after another -/
noncomputable def lcGo (tg : Tg) (vs : List Nat) (hd : Option (Nat × List PyData)) (c : Mo Bool) (f : Mo EV) : List PyData → List PyData → Mo (List PyData)
  | [], acc, env, w => if Held hd env then .ok acc env w else .stuck
  | d :: ds, acc, env, w => if Held hd env then match asgT env tg d with
    | none => .stuck
    | some e1 => (c e1 w).bind fun b e2 w2 =>
      if b = true then (f e2 w2).bind fun v e3 w3 => match esc1 e3 v with
        | none => .stuck
        | some (x, e4) => if acc.length < sizeLine then lcGo tg vs hd c f ds (acc ++ [x]) (wipeE e4 vs) w3 else .stuck
      else lcGo tg vs hd c f ds acc (wipeE e2 vs) w2
    else .stuck
def noX {α : Type} : Res α → Res α
  | .exc _ _ _ => .stuck
  | r => r

/-- what is gone through: a list or tuple, its items told one by one or with their numbers; numbers -/
structure Ik where
  items : List PyData
  at_ : Option Nat
  raw : List PyData
def Ik.hold (k : Ik) (env : Nv) : Option (Nat × List PyData) := k.at_.map fun i => (i, k.raw)
def seqK (env : Nv) (v : EV) (f : List PyData → List PyData) : Option (Ik × Nv) := match v with
  | .bor i => match env[i]? with
    | some (some (.lst ds)) => some (⟨f ds, some i, ds⟩, env)
    | _ => none
  | v => match esc1 env v with
    | some (.list ds, e2) => some (⟨f ds, none, []⟩, e2)
    | some (.tuple ds, e2) => some (⟨f ds, none, []⟩, e2)
    | _ => none
def andK (k : Nv → Wd → Res EV) : EV → Nv → Wd → Res EV
  | .fz (.bool true), e1, w1 => k e1 w1
  | .fz (.bool false), e1, w1 => .ok (.fz (.bool false)) e1 w1
  | _, _, _ => .stuck
def orK (k : Nv → Wd → Res EV) : EV → Nv → Wd → Res EV
  | .fz (.bool false), e1, w1 => k e1 w1
  | .fz (.bool true), e1, w1 => .ok (.fz (.bool true)) e1 w1
  | _, _, _ => .stuck
def chnK (o : Option Bool) (k s : Res EV) : Res EV := match o with
  | some true => k
  | some false => s
  | none => .stuck
def popI (i : Nat) (x : EV) (e1 : Nv) (w1 : Wd) : Res EV := match dval e1 x, e1[i]? with
  | some (.int k), some (some (.lst ds)) => match seqIndex? k ds.length with
    | some j => match ds[j]? with
      | some d => if -(2 ^ 63) ≤ k ∧ k < 2 ^ 63 then .ok (.fz d) (e1.set i (some (.lst (ds.eraseIdx j)))) w1 else .stuck
      | none => .stuck
    | none => .stuck
  | _, _ => .stuck
mutual
noncomputable def ev (fn : Fns) : E → Nv → Wd → Res EV
  | .var i, env, w => match env[i]? with
    | some (some (.fz d)) => .ok (.fz d) env w
    | some (some (.lst _)) => .ok (.bor i) env w
    | some (some .src) => .ok .src env w
    | _ => .stuck
  | .cI i, env, w => .ok (.fz (.int i)) env w
  | .cS s, env, w => .ok (.fz (.str s)) env w
  | .cN, env, w => .ok (.fz .none) env w
  | .cB b, env, w => .ok (.fz (.bool b)) env w
  | .neg a, env, w => (ev fn a env w).bind fun x e1 w1 => match dval e1 x with
    | some (.int i) => .ok (.fz (.int (-i))) e1 w1
    | _ => .stuck
  | .tup es, env, w => (evs fn es env w).bind fun xs e1 w1 => match escD e1 xs with
    | some (ds, e2) => if ds.length ≤ sizeLine then .ok (.fz (.tuple ds)) e2 w1 else .stuck
    | none => .stuck
  | .lst es, env, w => (evs fn es env w).bind fun xs e1 w1 => match escD e1 xs with
    | some (ds, e2) => if ds.length ≤ sizeLine then .ok (.lst ds) e2 w1 else .stuck
    | none => .stuck
  | .bin op a b, env, w => (ev fn a env w).bind fun x e1 w1 => (ev fn b e1 w1).bind fun y e2 w2 => match dval e2 x, dval e2 y with
    | some d, some e => pick1 (binD op d e) e2 w2
    | _, _ => .stuck
  | .cmp op a b, env, w => (ev fn a env w).bind fun x e1 w1 => (ev fn b e1 w1).bind fun y e2 w2 => match dval e2 x, dval e2 y with
    | some d, some e => pick1 ((cmpD op d e).map fun c => .fz (.bool c)) e2 w2
    | _, _ => .stuck
  | .chn op op2 a b c, env, w => (ev fn a env w).bind fun x e1 w1 => (ev fn b e1 w1).bind fun y e2 w2 => match dval e2 x, dval e2 y with
    | some d, some e => chnK (cmpD op d e) ((ev fn c e2 w2).bind fun z e3 w3 => match dval e3 y, dval e3 z with
        | some e', some g => pick1 ((cmpD op2 e' g).map fun c => .fz (.bool c)) e3 w3
        | _, _ => .stuck) (.ok (.fz (.bool false)) e2 w2)
    | _, _ => .stuck
  | .and es, env, w => evAnd fn es env w
  | .or es, env, w => evOr fn es env w
  | .not a, env, w => (ev fn a env w).bind fun v e1 w1 => match v with
    | .fz (.bool b) => .ok (.fz (.bool (!b))) e1 w1
    | _ => .stuck
  | .ite t a b, env, w => (tst (ev fn t env w)).bind fun c e1 w1 => if c = true then ev fn a e1 w1 else ev fn b e1 w1
  | .sub a i, env, w => (ev fn a env w).bind fun x e1 w1 => (ev fn i e1 w1).bind fun y e2 w2 => match dval e2 x, dval e2 y with
    | some d, some e => pick1 ((subD d e).map .fz) e2 w2
    | _, _ => .stuck
  | .slc a lo hi, env, w => (ev fn a env w).bind fun x e1 w1 => (evO fn lo e1 w1).bind fun l e2 w2 => (evO fn hi e2 w2).bind fun h e3 w3 => match dval e3 x with
    | some d => pick1 (slcD d l h) e3 w3
    | _ => .stuck
  | .rev a, env, w => (ev fn a env w).bind fun x e1 w1 => match dval e1 x with
    | some d => pick1 (revD d) e1 w1
    | _ => .stuck
  | .call f es, env, w => (evs fn es env w).bind fun xs e1 w1 => match escA e1 xs with
    | some (as, e2) => endC e2 (fn f as w1)
    | none => .stuck
  | .bi b es, env, w => (evs fn es env w).bind fun xs e1 w1 => match xs.mapM (dval e1) with
    | some ds => pick1 (biD b ds) e1 w1
    | none => .stuck
  | .isi a t, env, w => (ev fn a env w).bind fun x e1 w1 => match dval e1 x with
    | some d => .ok (.fz (.bool (isiD t d))) e1 w1
    | none => .stuck
  | .index a b, env, w => .stuck
  | .pop i, env, w => match env[i]? with
    | some (some (.lst ds)) => match ds[ds.length - 1]? with
      | some d => .ok (.fz d) (env.set i (some (.lst ds.dropLast))) w
      | none => .stuck
    | _ => .stuck
  | .popAt i a, env, w => match env[i]? with
    | some (some (.lst _)) => (ev fn a env w).bind fun x e1 w1 => popI i x e1 w1
    | _ => .stuck
  | .lc own tg it ifs elt, env, w => (evI fn it env w).bind fun ds e1 w1 =>
      (noX (lcGo tg (own.map (·.2)) (ds.hold e1) (evT fn ifs) (ev fn elt) ds.items [] (wipeE e1 (own.map (·.2))) w1)).bind fun xs e2 w2 => .ok (.lst xs) (keepE e1 e2 (own.map (·.2))) w2
noncomputable def evs (fn : Fns) : Es → Nv → Wd → Res (List EV)
  | .nil, env, w => .ok [] env w
  | .cons e es, env, w => (ev fn e env w).bind fun x e1 w1 => (evs fn es e1 w1).bind fun xs e2 w2 => .ok (x :: xs) e2 w2
noncomputable def evAnd (fn : Fns) : Es → Nv → Wd → Res EV
  | .nil, _, _ => .stuck
  | .cons e .nil, env, w => ev fn e env w
  | .cons e (.cons e' r), env, w => (ev fn e env w).bind (andK fun e1 w1 => evAnd fn (.cons e' r) e1 w1)
noncomputable def evOr (fn : Fns) : Es → Nv → Wd → Res EV
  | .nil, _, _ => .stuck
  | .cons e .nil, env, w => ev fn e env w
  | .cons e (.cons e' r), env, w => (ev fn e env w).bind (orK fun e1 w1 => evOr fn (.cons e' r) e1 w1)
noncomputable def evT (fn : Fns) : Es → Nv → Wd → Res Bool
  | .nil, env, w => .ok true env w
  | .cons e .nil, env, w => tst (ev fn e env w)
  | _, _, _ => .stuck
noncomputable def evO (fn : Fns) : OE → Nv → Wd → Res (Option Int)
  | .no, env, w => .ok none env w
  | .yes e, env, w => (ev fn e env w).bind fun x e1 w1 => match x with
    | .fz (.int i) => .ok (some i) e1 w1
    | _ => .stuck
noncomputable def evI (fn : Fns) : IE → Nv → Wd → Res Ik
  | .seq e, env, w => (ev fn e env w).bind fun x e1 w1 => match seqK e1 x id with
    | some (k, e2) => .ok k e2 w1
    | none => .stuck
  | .rng1 a, env, w => (ev fn a env w).bind fun x e1 w1 => match x with
    | .fz (.int j) => if -(2 ^ 62) ≤ j ∧ j < 2 ^ 62 then .ok ⟨rngL 0 j.toNat, none, []⟩ e1 w1 else .stuck
    | _ => .stuck
  | .rng2 a b, env, w => (ev fn a env w).bind fun x e1 w1 => (ev fn b e1 w1).bind fun y e2 w2 => match x, y with
    | .fz (.int i), .fz (.int j) => if -(2 ^ 62) ≤ i ∧ i < 2 ^ 62 ∧ -(2 ^ 62) ≤ j ∧ j < 2 ^ 62 then .ok ⟨rngL i (j - i).toNat, none, []⟩ e2 w2 else .stuck
    | _, _ => .stuck
  | .enm e, env, w => (ev fn e env w).bind fun x e1 w1 => match seqK e1 x enmL with
    | some (k, e2) => .ok k e2 w1
    | none => .stuck
  | .zp a b, env, w => .stuck
end

/-! ### statements -/
inductive SR where
  | stuck
  | nx (e : Nv) (w : Wd)
  | rt (v : EV) (w : Wd)
  | bk (e : Nv) (w : Wd)
  | ct (e : Nv) (w : Wd)
  | exc (x : Xn) (e : Nv) (w : Wd)
def Res.toS {α : Type} (r : Res α) (k : α → Nv → Wd → SR) : SR := match r with
  | .stuck => .stuck
  | .ok a e w => k a e w
  | .exc x e w => .exc x e w
@[simp] theorem Res.toS_ok {α : Type} (a : α) (e : Nv) (w : Wd) (k : α → Nv → Wd → SR) : (Res.ok a e w).toS k = k a e w := rfl
def SR.seq (r : SR) (k : Nv → Wd → SR) : SR := match r with
  | .nx e w => k e w
  | r => r
@[simp] theorem SR.seq_nx (e : Nv) (w : Wd) (k : Nv → Wd → SR) : (SR.nx e w).seq k = k e w := rfl
def setV (env : Nv) (i : Nat) : EV → Option Nv
  | .lst ds => if i < env.length then some (env.set i (some (.lst ds))) else none
  | .src => if i < env.length then some (env.set i (some .src)) else none
  | v => match esc1 env v with
    | some (d, e1) => if i < e1.length then some (e1.set i (some (.fz d))) else none
    | none => none
def goS (o : Option Nv) (w : Wd) : SR := match o with
  | some e => .nx e w
  | none => .stuck
/-- a value that stands in a slot is let go of there -/
def unbor (env : Nv) : EV → Option (EV × Nv)
  | .bor i => match esc1 env (.bor i) with
    | some (d, e1) => some (.fz d, e1)
    | none => none
  | v => some (v, env)
def putV (env : Nv) (i : Nat) (v : EV) : Option Nv := if i < env.length then some (env.set i (some v)) else none
def parS (i j : Nat) (x y : EV) (env : Nv) (w : Wd) : SR := match unbor env x with
  | none => .stuck
  | some (x', e1) => match unbor e1 y with
    | none => .stuck
    | some (y', e2) => match putV e2 i x' with
      | none => .stuck
      | some e3 => goS (putV e3 j y') w
def parS3 (i j k : Nat) (x y z : EV) (env : Nv) (w : Wd) : SR := match unbor env x with
  | none => .stuck
  | some (x', e1) => match unbor e1 y with
    | none => .stuck
    | some (y', e2) => match unbor e2 z with
      | none => .stuck
      | some (z', e3) => match putV e3 i x' with
        | none => .stuck
        | some e4 => match putV e4 j y' with
          | none => .stuck
          | some e5 => goS (putV e5 k z') w
def appI (i : Nat) (v : EV) (e1 : Nv) (w1 : Wd) : SR := match esc1 e1 v with
  | some (d, e2) => match e2[i]? with
    | some (some (.lst ds)) => if ds.length < sizeLine then .nx (e2.set i (some (.lst (ds ++ [d])))) w1 else .stuck
    | _ => .stuck
  | none => .stuck
/-- what a def hands back: a list of its own goes with it -/
def retV (env : Nv) : EV → Option EV
  | .bor i => match env[i]? with
    | some (some (.lst ds)) => some (.lst ds)
    | some (some (.fz d)) => some (.fz d)
    | _ => none
  | v => some v
open Classical in
/-- a list in a slot that a for goes through is let go of -/
noncomputable def frzK (k : Ik) (env : Nv) : Option Nv := match k.at_ with
  | none => some env
  | some i => if env[i]? = some (some (.lst k.raw)) then some (env.set i (some (.fz (.list k.raw)))) else none
def forGo (tg : Tg) (b : Nv → Wd → SR) : List PyData → Nv → Wd → SR
  | [], env, w => .nx env w
  | d :: ds, env, w => match asgT env tg d with
    | none => .stuck
    | some e1 => match b e1 w with
      | .nx e2 w2 => forGo tg b ds e2 w2
      | .ct e2 w2 => forGo tg b ds e2 w2
      | .bk e2 w2 => .nx e2 w2
      | .rt v w2 => .rt v w2
      | .exc x e2 w2 => .exc x e2 w2
      | .stuck => .stuck
def whK (c : Mo Bool) (b : Nv → Wd → SR) : Nat → Nv → Wd → SR
  | 0, _, _ => .stuck
  | n + 1, env, w => (c env w).toS fun t e1 w1 => if t = true then (match b e1 w1 with
      | .nx e2 w2 => whK c b n e2 w2
      | .ct e2 w2 => whK c b n e2 w2
      | .bk e2 w2 => .nx e2 w2
      | .rt v w2 => .rt v w2
      | .exc x e2 w2 => .exc x e2 w2
      | .stuck => .stuck)
    else .nx e1 w1
open Classical in
noncomputable def whS (c : Mo Bool) (b : Nv → Wd → SR) (env : Nv) (w : Wd) : SR :=
  if h : ∃ n, whK c b n env w ≠ .stuck then whK c b (Classical.choose h) env w else .stuck

mutual
noncomputable def xS (fn : Fns) : S → Nv → Wd → SR
  | .asg tg e, env, w => (ev fn e env w).toS fun v e1 w1 => match esc1 e1 v with
    | some (d, e2) => goS (asgT e2 tg d) w1
    | none => .stuck
  | .set i e, env, w => (ev fn e env w).toS fun v e1 w1 => goS (setV e1 i v) w1
  | .par i j a b, env, w => (ev fn a env w).toS fun x e1 w1 => (ev fn b e1 w1).toS fun y e2 w2 => parS i j x y e2 w2
  | .par3 i j k a b c, env, w => (ev fn a env w).toS fun x e1 w1 => (ev fn b e1 w1).toS fun y e2 w2 => (ev fn c e2 w2).toS fun z e3 w3 => parS3 i j k x y z e3 w3
  | .exp e, env, w => (ev fn e env w).toS fun _ e1 w1 => .nx e1 w1
  | .app i e, env, w => match env[i]? with
    | some (some (.lst _)) => (ev fn e env w).toS fun v e1 w1 => appI i v e1 w1
    | _ => .stuck
  | .ext i e, env, w => .stuck
  | .setIx i k e, env, w => .stuck
  | .ret e, env, w => (ev fn e env w).toS fun v e1 w1 => match retV e1 v with
    | some v => .rt v w1
    | none => .stuck
  | .ife t a b, env, w => (tst (ev fn t env w)).toS fun c e1 w1 => if c = true then xsl fn a e1 w1 else xsl fn b e1 w1
  | .whl t b, env, w => whS (fun env w => tst (ev fn t env w)) (xsl fn b) env w
  | .for_ tg it b, env, w => (evI fn it env w).toS fun k e1 w1 => match frzK k e1 with
    | some e2 => forGo tg (xsl fn b) k.items e2 w1
    | none => .stuck
  | .pas, env, w => .nx env w
  | .brk, env, w => .bk env w
  | .cnt, env, w => .ct env w
  | .nev, _, _ => .stuck
noncomputable def xsl (fn : Fns) : Sl → Nv → Wd → SR
  | .nil, env, w => .nx env w
  | .cons s r, env, w => (xS fn s env w).seq (xsl fn r)
end
end DL

set_option Elab.async false
set_option linter.all false
set_option maxRecDepth 100000
set_option maxHeartbeats 2000000
set_option autoImplicit false
namespace DL
open PySem PySem.Spec L2

/-! ### which written text is meant -/
structure Cxt where
  N : List Str
  sc : Scope
  fnb : Str → Bool
  defs : List Str
  fx : Nat → Bool
/-! the slots that a target stores -/
mutual
def Tg.sl : Tg → List Nat
  | .nm i => [i]
  | .tp ts => ts.sl
def Tgs.sl : Tgs → List Nat
  | .nil => []
  | .cons t ts => t.sl ++ ts.sl
end
def visB (sc : Scope) (x : Str) : Bool := match sc.names.lookup x with
  | some .local => true
  | some .cell => true
  | some .free => true
  | _ => false
def glB (sc : Scope) (x : Str) : Bool := match sc.names.lookup x with
  | some .globalImplicit => true
  | _ => false
/-- a name that may be stored -/
def locB (cx : Cxt) (x : Str) : Bool := match cx.sc.names.lookup x with
  | some .local => true
  | some .cell => cx.fnb x
  | _ => false
def isLocal (sc : Scope) (x : Str) : Bool := match sc.names.lookup x with
  | some .local => true
  | _ => false
def odd (x : Str) : Bool := x == ("__debug__" : Str) || x == ("__classdict__" : Str) || x == ("__name__" : Str)
def biName : Bi → Str
  | .len => "len" | .int => "int" | .abs => "abs" | .min1 => "min" | .max1 => "max" | .min2 => "min" | .max2 => "max" | .sorted => "sorted" | .tuple => "tuple" | .list => "list" | .any => "any" | .all => "all" | .repr => "repr" | .sum => "sum"
def tyName : Ty → Str
  | .int => "int" | .bool => "bool" | .str => "str" | .tuple => "tuple" | .list => "list" | .dict => "dict"
def bopOf : Bop → Operator
  | .add => .Add | .sub => .Sub | .mul => .Mult | .fdiv => .FloorDiv | .mod => .Mod | .pow => .Pow
def copOf : Cop → CmpOp
  | .lt => .Lt | .le => .LtE | .gt => .Gt | .ge => .GtE | .eq => .Eq | .ne => .NotEq | .isin => .In | .notin => .NotIn | .isn => .Is | .notn => .IsNot
def bopB (o : Bop) (p : Operator) : Bool := match o, p with
  | .add, .Add => true | .sub, .Sub => true | .mul, .Mult => true | .fdiv, .FloorDiv => true | .mod, .Mod => true | .pow, .Pow => true
  | _, _ => false
def copB (o : Cop) (p : CmpOp) : Bool := match o, p with
  | .lt, .Lt => true | .le, .LtE => true | .gt, .Gt => true | .ge, .GtE => true | .eq, .Eq => true | .ne, .NotEq => true | .isin, .In => true | .notin, .NotIn => true | .isn, .Is => true | .notn, .IsNot => true
  | _, _ => false
def isNone : Expr → Bool
  | .Constant .none _ _ => true
  | _ => false
def isTupE : Expr → Bool
  | .Tuple _ _ _ => true
  | _ => false
/-- a plain expression: no star, no slice, no set's display -/
def okX : Expr → Bool
  | .Starred _ _ => false
  | .Slice _ _ _ _ => false
  | .Set _ _ _ => false
  | _ => true
/-- what may stand behind an operator: no set's display -/
def noSet : Expr → Bool
  | .Set _ _ _ => false
  | _ => true
def isSlot (cx : Cxt) (i : Nat) (e : Expr) : Bool := match e with
  | .Name x _ => decide (cx.N[i]? = some x) && visB cx.sc x && !odd x
  | _ => false
mutual
def tgB (cx : Cxt) : Tg → Expr → Bool
  | .nm i, e => match e with
    | .Name x _ => decide (cx.N[i]? = some x) && locB cx x
    | _ => false
  | .tp ts, e => match e with
    | .Tuple es _ _ => tgsB cx ts es
    | _ => false
def tgsB (cx : Cxt) : Tgs → List Expr → Bool
  | .nil, [] => true
  | .cons t ts, e :: es => tgB cx t e && tgsB cx ts es
  | _, _ => false
end
/-- the scope in which a comprehension's block runs -/
def blkSc (scope sc : Scope) : Scope := relS scope sc
def blkCx (cx : Cxt) (scope : Scope) : Cxt := { cx with sc := relS scope cx.sc, fnb := fun x => scope.names.lookup x == some .cell }
mutual
def chk : Cxt → E → Expr → Bool
  | cx, .var i, e => isSlot cx i e
  | cx, .cI i, e => match e with
    | .Constant (.int j) _ _ => decide (i = j)
    | _ => false
  | cx, .cS s, e => match e with
    | .Constant (.str t) _ _ => decide (s = t)
    | _ => false
  | cx, .cN, e => isNone e
  | cx, .cB b, e => match e with
    | .Constant (.bool c) _ _ => b == c
    | _ => false
  | cx, .neg a, e => match e with
    | .UnaryOp .USub x _ => chk cx a x
    | _ => false
  | cx, .tup es, e => match e with
    | .Tuple xs _ _ => chks cx es xs
    | _ => false
  | cx, .lst es, e => match e with
    | .List xs _ => chks cx es xs
    | _ => false
  | cx, .bin op a b, e => match e with
    | .BinOp x o y _ => bopB op o && chk cx a x && chk cx b y
    | _ => false
  | cx, .cmp op a b, e => match e with
    | .Compare x [o] [y] _ => copB op o && chk cx a x && chk cx b y && noSet y
    | _ => false
  | cx, .chn op op2 a b c, e => match e with
    | .Compare x [o, o2] [y, z] _ => copB op o && copB op2 o2 && chk cx a x && chk cx b y && chk cx c z && noSet y && noSet z
    | _ => false
  | cx, .and es, e => match e with
    | .BoolOp .And xs _ => chks cx es xs
    | _ => false
  | cx, .or es, e => match e with
    | .BoolOp .Or xs _ => chks cx es xs
    | _ => false
  | cx, .not a, e => match e with
    | .UnaryOp .Not x _ => chk cx a x
    | _ => false
  | cx, .ite t a b, e => match e with
    | .IfExp x y z _ => chk cx t x && chk cx a y && chk cx b z
    | _ => false
  | cx, .sub a i, e => match e with
    | .Subscript x y _ => chk cx a x && chk cx i y
    | _ => false
  | cx, .slc a lo hi, e => match e with
    | .Subscript x (.Slice l h none _) _ => chk cx a x && chkO cx lo l && chkO cx hi h
    | _ => false
  | cx, .rev a, e => match e with
    | .Subscript x (.Slice none none (some (.UnaryOp .USub (.Constant (.int 1) _ _) _)) _) _ => chk cx a x
    | _ => false
  | cx, .call f es, e => match e with
    | .Call (.Name x _) xs [] _ => decide (cx.defs[f]? = some x) && glB cx.sc x && !odd x && chks cx es xs && !xs.isEmpty
    | _ => false
  | cx, .bi b es, e => match e with
    | .Call (.Name x _) xs [] _ => decide (x = biName b) && glB cx.sc x && chks cx es xs && !xs.isEmpty
    | _ => false
  | cx, .isi a t, e => match e with
    | .Call (.Name x _) [y, .Name z _] [] _ => decide (x = ("isinstance" : Str)) && glB cx.sc x && chk cx a y && decide (z = tyName t) && glB cx.sc z
    | _ => false
  | cx, .index a b, e => false
  | cx, .pop i, e => match e with
    | .Call (.Attribute o m ap) [] [] p => isSlot cx i o && decide (m = ("pop" : Str)) && ap.endLine == p.line
    | _ => false
  | cx, .popAt i a, e => match e with
    | .Call (.Attribute o m ap) [x] [] p => isSlot cx i o && decide (m = ("pop" : Str)) && chk cx a x && ap.endLine == p.line
    | _ => false
  | cx, .lc own tg it ifs elt, e => match e with
    | .ListComp y [⟨t, i, c, 0⟩] scope _ => blkC cx.N cx.sc scope own && chkI cx it t i && tg.sl.all (own.map (·.2)).contains && tgB (blkCx cx scope) tg t && chks (blkCx cx scope) ifs c && decide (c.length ≤ 1) && chk (blkCx cx scope) elt y
    | _ => false
def chks : Cxt → Es → List Expr → Bool
  | cx, .nil, [] => true
  | cx, .cons a r, x :: xs => chk cx a x && chks cx r xs
  | _, _, _ => false
def chkO : Cxt → OE → Option Expr → Bool
  | cx, .no, o => match o with
    | none => true
    | _ => false
  | cx, .yes a, o => match o with
    | some x => chk cx a x
    | _ => false
def chkI : Cxt → IE → Expr → Expr → Bool
  | cx, .seq a, t, e => chk cx a e
  | cx, .rng1 a, t, e => match e with
    | .Call (.Name x _) [y] [] _ => decide (x = ("range" : Str)) && glB cx.sc x && chk cx a y
    | _ => false
  | cx, .rng2 a b, t, e => match e with
    | .Call (.Name x _) [y, z] [] _ => decide (x = ("range" : Str)) && glB cx.sc x && chk cx a y && chk cx b z
    | _ => false
  | cx, .enm a, t, e => match e with
    | .Call (.Name x _) [y] [] _ => decide (x = ("enumerate" : Str)) && glB cx.sc x && chk cx a y && isTupE t
    | _ => false
  | cx, .zp a b, t, e => false
end
end DL

set_option Elab.async false
set_option linter.all false
set_option maxRecDepth 100000
set_option maxHeartbeats 2000000
set_option autoImplicit false
namespace DL
open PySem PySem.Spec L2

/-! ### a def's promise, where nothing is being shown as a text -/
structure FnG (P : Program) (w : World) (K : PySem.W.Frag) (mg : Str → Option Value) (base : Heap) (k : Nat) (f : Addr) (fd : FuncData) (ps : List Str) (sp : Sp) : Prop where
  len : ∀ vs H Q E, sp vs H Q E → vs.length = ps.length
  run : ∀ (A : Around) (outer : List Env) (s : Shared) (H : Hp) (args : Args) (us : List Value) (vs : List V) (Q : VK) (E : XK),
    Room k A → A.guards = some [] → Env0 P w K mg base A outer s H → BindsTo s fd args (ps.zip us) → Vals vs us → sp vs H Q E →
    codeAny (model P w) A (.call (.ref f) args) (CR (L2.CX P w) outer P w H s Q E) s
section
variable {P : Program} {w : World} {K : PySem.W.Frag} {mg : Str → Option Value} {base : Heap} {k j : Nat} {f : Addr} {fd : FuncData} {ps : List Str} {sp sp' : Sp}
theorem FnG.of (F : FnOk P w K mg base (L2.CX P w) k f fd ps sp) : FnG P w K mg base k f fd ps sp :=
  ⟨F.len, fun A outer s H args us vs Q E hr _ e0 hb hv hs => F.run A outer s H args us vs Q E hr e0 hb hv hs⟩
theorem FnG.mono (F : FnG P w K mg base j f fd ps sp) (h : j ≤ k) : FnG P w K mg base k f fd ps sp :=
  ⟨F.len, fun A outer s H args us vs Q E hr => F.run A outer s H args us vs Q E (hr.mono h)⟩
theorem FnG.imp (F : FnG P w K mg base k f fd ps sp) (h : ∀ vs H Q E, sp' vs H Q E → sp vs H Q E) : FnG P w K mg base k f fd ps sp' :=
  ⟨fun vs H Q E q => F.len vs H Q E (h _ _ _ _ q), fun A outer s H args us vs Q E hr hg e0 hb hv hs => F.run A outer s H args us vs Q E hr hg e0 hb hv (h _ _ _ _ hs)⟩
end
section
variable {X : Cx} {k : Nat} {f : Addr} {fd : FuncData} {ps : List Str} {sp : Sp} {E : St → XK} {x : Str} {p pos : Pos} {e : Expr} {es : List Expr} {t : TA}
theorem run_g {pins : List (Addr × Obj)} {σ : St} {H : Hp} {s : Shared} {Q : VK} {us : List Value} {vs : List V} (F : FnG X.prog X.w X.K X.mg X.base k f fd ps sp)
    (hr : Room k X.A) (hg : X.A.guards = some []) (hb : Binds X.K fd ps []) (hx : PassesAt (L2.CX X.prog X.w) X σ (E σ)) (I : Inv X pins σ H s) (r : Vals vs us) (h : sp vs H Q (E σ)) :
    wpAny (model X.prog X.w) X.A (call (.ref f) us) (EP X pins σ Q) X.xe s := by
  have hl : (us ++ []).length = ps.length := by
    have := F.len _ _ _ _ h
    simp [← r.length, this]
  have b := hb s us I.kIn hl
  simp only [List.append_nil] at b
  have c := F.run X.A X.stack s H ⟨us, []⟩ us vs Q (E σ) hr hg I.env0 b r h
  refine wpAny_call (codeAny_mono c ?_)
  intro z s' hq
  match z, hq with
  | .error e, hq => exact hx pins H s e s' I hq
  | .ok (.ret u), hq => exact I.after hq
  | .ok .next, hq => exact False.elim hq
  | .ok .brk, hq => exact False.elim hq
  | .ok .cont, hq => exact False.elim hq
theorem pe_g (F : FnG X.prog X.w X.K X.mg X.base k f fd ps sp) (hr : Room k X.A) (hgd : X.A.guards = some []) (hg : Gl X x) (hm : X.mg x = some (.ref f)) (hk : PySem.W.keepIn X.K (.ref f) = true)
    (hb : Binds X.K fd ps []) (hx : ∀ σ, PassesAt (L2.CX X.prog X.w) X σ (E σ)) (ha : PA X (e :: es) t) (hdb : (x == ("__debug__" : Str)) = false)
    (he : starEach (e :: es) X.env = (false, eval e X.env) :: starEach es X.env) (hpl : (backTo pos (starEach es X.env)).any (·.1) = false) :
    PE X (.Call (.Name x p) (e :: es) [] pos) (tCallS sp E t) := by
  constructor
  intro pins s σ H Q I h
  refine wpAny_Call_Name_kw (ld_glob I hg hm ?_ hdb)
  refine PySem.W.callWith_K (h₀ := X.base) I.ok.mod.kin hk ?_ he hpl
  refine thn (ha.run pos pins s σ H _ I h) ?_
  rintro us s1 ⟨vs, H1, I1, r, q⟩
  exact ⟨I1.kIn, run_g F hr hgd hb (hx σ) I1 r q⟩
end
/-- a def of the text, by its body, where nothing is being shown -/
theorem fnG_of {P : Program} {w : World} {K : PySem.W.Frag} {mg : Str → Option Value} {base : Heap} {k : Nat} {x qual : Str} {st : Stmt} {f : Addr} {fd : FuncData} {N ps : List Str} {sp : Sp}
    (F : Fun K x qual st f fd) (S : FnScope N ps (defScope st)) (len : ∀ vs H Q E, sp vs H Q E → vs.length = ps.length)
    (hbody : ∀ (cdv : Value) (A : Around) (outer : List Env) (s : Shared) (H : Hp) (vs : List V) (Q : VK) (E : XK),
      Room k (A.deeper (PyProof.Rows.envOfC qual (defScope st) s.heap.objs.size f cdv)) → A.guards = some [] → sp vs H Q E →
      ∃ t, PSs (cxOf (L2.CX P w) P w K mg base N qual (defScope st) f cdv A outer s H E) (defBody st) t ∧ t { nx := fun _ H' => Q .non H', rt := Q } (start N vs) H) :
    FnG P w K mg base (k + 1) f fd ps sp := by
  refine ⟨len, ?_⟩
  intro A outer s H args us vs Q E hr hg e0 hb hv hs
  obtain ⟨oc, od, kV, doc, pm, an, cdv, ct, osl, rfl, lk, hcd⟩ := F.ex
  have kin : K.In s.heap := e0.mod.kin.keeps fun b o e => (e0.bs b o e).1
  have nol : s.heap.NoLimit := e0.mod.nolimit.keeps fun b o e => (e0.bs b o e).1
  have knd : ∀ y ∈ ps.zip us, (defScope st).names.lookup y.1 = some .local ∨ ((defScope st).names.lookup y.1 = some .cell ∧ ((cellsFrom (s.heap.objs.size + 1) (defScope st).names []).lookup y.1).isSome = true) := by
    rintro ⟨n, v⟩ hy
    exact (S.par n (List.of_mem_zip hy).1).imp id fun q => ⟨q, PySem.W.cellsFrom_some _ _ _ (.inl q)⟩
  refine codeAny_call_function hr.depth (kin _ _ lk) rfl S.co S.gen rfl (PySem.W.codeRec_of kin hcd) (hb _ _ _ _ ?_)
  refine wpAny_newFunctionEnv_cells S.kind knd ?_
  intro env he s1 x
  subst he
  refine ⟨nol.keeps x.toInCall.keep, codeAny_func ?_⟩
  obtain ⟨t, ht, hq⟩ := hbody cdv A outer s H vs Q E (hr.deeper _) hg hs
  have J0 : Inv (cxOf (L2.CX P w) P w K mg base N qual (defScope st) f cdv A outer s H E) [] (start N vs) H s1 := inv_start S hr.hd e0 (len _ _ _ _ hs) hv x
  refine wpAny_mono (ht.run [] s1 (start N vs) H _ J0 hq) ?_ fun _ _ q => q
  rintro fl s' hs'
  cases fl with
  | next => obtain ⟨σ', H', J, q⟩ := hs'
            exact ⟨V.non, H', J.os, J.bare, J.base, J.hok, rfl, q⟩
  | ret u => obtain ⟨v, σ', H', J, rv, q⟩ := hs'
             exact ⟨v, H', J.os, J.bare, J.base, J.hok, rv, q⟩
  | brk => obtain ⟨_, _, _, q⟩ := hs'; exact q.elim
  | cont => obtain ⟨_, _, _, q⟩ := hs'; exact q.elim
end DL

set_option Elab.async false
set_option linter.all false
set_option maxRecDepth 100000
set_option maxHeartbeats 2000000
set_option autoImplicit false
namespace DL
open PySem PySem.Spec L2

section
variable {K : PySem.W.Frag} {F F' F0 F1 F2 : Hp} {ow ow' ow0 ow1 ow2 : Ow} {H H0 H1 H2 : Hp} {σ : St} {env env' env1 : Nv} {w w1 : Wd}

/-! ### one after another, seen from the first place -/
section
variable {α β γ δ : Type} {Y : Hp → Hp → Ow → Hp → β → α → Prop} {Z : Hp → Hp → Ow → Hp → δ → γ → Prop} {XR : Hp → Hp → Xn → Value → Option Addr → Prop} {W : WX}
theorem OutG.bindAt {r : Res α} {k : α → Nv → Wd → Res γ} {Q : δ → Hp → Prop} (s : Stp F ow H F1 ow1 H1) (h : OutG K Z XR F ow σ H (r.bind k) Q W) :
    OutG K Y XR F1 ow1 σ H1 r (fun b H2 => ∃ F2 ow2 a env2 w2, Stp F ow H F2 ow2 H2 ∧ Stp F1 ow1 H1 F2 ow2 H2 ∧ Rel K F2 ow2 σ H2 env2 w2 ∧ Y H1 F2 ow2 H2 b a ∧ r = .ok a env2 w2 ∧ OutG K Z XR F ow σ H (k a env2 w2) Q W) W := by
  cases r with
  | stuck => exact h
  | ok a env w => exact fun F' ow' H' b s' R y => ⟨F', ow', a, env, w, s.trans s', s', R, y, rfl, h⟩
  | exc x env w => exact fun F' ow' H' cls d s' R y => h F' ow' H' cls d (s.trans s') R y
end

/-! ### data at hand -/
def DV (K : PySem.W.Frag) (F H : Hp) (v : V) : PyData → Prop
  | .list ds => ∃ p vs, v = .ref p ∧ H p = some (.lst vs) ∧ RpAll K F vs ds
  | d => Rp K F v d
theorem RV.dv {v : V} {e : EV} {d : PyData} (R : Rel K F ow σ H env w) (h : RV K H0 F ow σ H v e) (hd : dval env e = some d) : DV K F H v d := by
  have hF : ∀ d : PyData, Rp K F v d → DV K F H v d := by
    intro d h
    cases d <;> first | exact h | skip
    cases h with
    | lst s a => exact ⟨_, _, rfl, R.sub _ _ s, a⟩
  cases e with
  | fz d' =>
    simp only [dval, Option.some.injEq] at hd
    subst hd
    exact hF _ h
  | bor i =>
    simp only [dval] at hd
    split at hd
    · rename_i ds' he
      cases hd
      exact RV.items (H0 := H0) (v := v) (e := .bor i) R h (by simp only [dval, he])
    · rename_i d' he
      obtain ⟨v', e1, e2⟩ := R.slot i _ he
      have : v = v' := Option.some.inj (Option.some.inj ((show σ[i]? = some (some v) from h).symm.trans e1))
      subst this
      cases hd
      exact hF _ e2
    · cases hd
  | lst ds' =>
    simp only [dval, Option.some.injEq] at hd
    subst hd
    exact RV.items R h rfl
  | src => cases hd
theorem DV.rp {v : V} {d : PyData} (s : Same F H) (h : DV K F H v d) : Rp K H v d := by
  cases d <;> first | exact Rp.mono s _ _ h | skip
  obtain ⟨p, vs, rfl, h1, h2⟩ := h
  exact .lst h1 (RpAll.mono s _ _ h2)
inductive DVs (K : PySem.W.Frag) (F H : Hp) : List V → List PyData → Prop
  | nil : DVs K F H [] []
  | cons {v : V} {vs : List V} {d : PyData} {ds : List PyData} : DV K F H v d → DVs K F H vs ds → DVs K F H (v :: vs) (d :: ds)
/-- values at hand, one after another -/
inductive RVs (K : PySem.W.Frag) (H0 F : Hp) (ow : Ow) (σ : St) (H : Hp) : List V → List EV → Prop
  | nil : RVs K H0 F ow σ H [] []
  | cons {v : V} {vs : List V} {e : EV} {es : List EV} : RV K H0 F ow σ H v e → RVs K H0 F ow σ H vs es → RVs K H0 F ow σ H (v :: vs) (e :: es)
theorem RVs.dvs (R : Rel K F ow σ H env w) : ∀ {vs : List V} {es : List EV} {ds : List PyData}, RVs K H0 F ow σ H vs es → es.mapM (dval env) = some ds → DVs K F H vs ds
  | _, _, _, .nil, h => by
    simp at h
    subst h
    exact .nil
  | _, _, ds, .cons (e := e) (es := es) a b, h => by
    simp only [List.mapM_cons] at h
    cases q : dval env e with
    | none => rw [q] at h; cases h
    | some d =>
      rw [q] at h
      cases q2 : es.mapM (dval env) with
      | none => rw [q2] at h; cases h
      | some ds' =>
        rw [q2] at h
        cases h
        exact .cons (a.dv R q) (RVs.dvs R b q2)
theorem RVs.step : ∀ {vs : List V} {es : List EV}, RVs K H0 F ow σ H vs es → Stp F ow H F1 ow1 H1 → RVs K H0 F1 ow1 σ H1 vs es
  | _, _, .nil, _ => .nil
  | _, _, .cons a b, s => .cons (a.step s) (RVs.step b s)
theorem RVs.base (s : Stp F ow H F1 ow1 H1) : ∀ {vs : List V} {es : List EV}, RVs K H1 F2 ow2 σ H2 vs es → RVs K H F2 ow2 σ H2 vs es
  | _, _, .nil => .nil
  | _, _, .cons a b => .cons (RV.base s a) (RVs.base s b)

/-! ### what an operation makes -/
inductive Mk (K : PySem.W.Frag) (F H : Hp) : EV → V → Hp → Hp → Prop
  | old {v : V} {d : PyData} : Rp K F v d → Mk K F H (.fz d) v F H
  | tup {p : Addr} {vs : List V} {ds : List PyData} : H p = none → RpAll K F vs ds → Mk K F H (.fz (.tuple ds)) (.ref p) (upd F p (.tup vs)) (upd H p (.tup vs))
  | lst {p : Addr} {vs : List V} {ds : List PyData} : H p = none → RpAll K F vs ds → Mk K F H (.lst ds) (.ref p) F (upd H p (.lst vs))
theorem Mk.ok {v : V} {e : EV} (m : Mk K F H e v F1 H1) (R : Rel K F ow σ H env w) : Stp F ow H F1 ow H1 ∧ Rel K F1 ow σ H1 env w ∧ RV K H F1 ow σ H1 v e := by
  cases m with
  | old h => exact ⟨.refl, R, h⟩
  | @tup p vs ds hp a =>
    have q := R.newF (o := .tup vs) hp
    exact ⟨q.2, q.1, Rp.tup (SqT.of upd_same) (RpAll.mono (Same.upd (R.frF hp)) _ _ a)⟩
  | @lst p vs ds hp a =>
    have q := R.newT (o := .lst vs) hp
    exact ⟨q.2, q.1, _, _, rfl, hp, R.owF hp, R.frF hp, upd_same, a⟩

/-! ### a slot's list is let go of; a list at hand, too -/
theorem WRel.own (h : WRel ow H w) (k : ∀ a t, TT0 ≤ t → (ow' a = some t ↔ ow a = some t)) : WRel ow' H w := by
  cases w with
  | none => exact fun a => ⟨fun q => (h a).1 ((k a TS (by decide)).mp q), fun q => (h a).2 ((k a TC (by decide)).mp q)⟩
  | some s =>
    obtain ⟨a, c, h1, h2, h3, h4, h5⟩ := h
    exact ⟨a, c, (k a TS (by decide)).mpr h1, (k c TC (by decide)).mpr h2, fun b q => h3 b ((k b TS (by decide)).mp q), fun b q => h4 b ((k b TC (by decide)).mp q), h5⟩
def dropOw (ow : Ow) (p : Addr) : Ow := fun a => if a = p then none else ow a
theorem idx_lt {α : Type} {l : List α} {i : Nat} {x : α} (h : l[i]? = some x) : i < l.length := by
  by_cases q : i < l.length
  · exact q
  · rw [List.getElem?_eq_none (by omega)] at h; cases h
theorem Rel.slt (R : Rel K F ow σ H env w) {i : Nat} {e : Option EV} (h : env[i]? = some e) : i < TT0 := Nat.lt_of_lt_of_le (idx_lt h) R.lt
theorem Rel.freeze (R : Rel K F ow σ H env w) {i : Nat} {ds : List PyData} {v : V} (he : env[i]? = some (some (.lst ds))) (hv : σ[i]? = some (some v)) :
    ∃ p vs, v = .ref p ∧ ow p = some i ∧ Stp F ow H (upd F p (.lst vs)) (dropOw ow p) H ∧ Rel K (upd F p (.lst vs)) (dropOw ow p) σ H (env.set i (some (.fz (.list ds)))) w ∧ Rp K (upd F p (.lst vs)) v (.list ds) := by
  have hi := R.slt he
  obtain ⟨v', e1, p, vs, rfl, hp, hH, ha⟩ := R.slot i _ he
  obtain rfl : v = .ref p := Option.some.inj (Option.some.inj (hv.symm.trans e1))
  have hF : F p = none := R.dis p (by rw [hp]; simp)
  have sF : Same F (upd F p (.lst vs)) := Same.upd hF
  have rp : Rp K (upd F p (.lst vs)) (.ref p) (.list ds) := .lst upd_same (RpAll.mono sF _ _ ha)
  have dO : ∀ a, dropOw ow p a ≠ none → a ≠ p ∧ ow a ≠ none := by
    intro a h
    unfold dropOw at h
    by_cases q : a = p
    · rw [if_pos q] at h; exact absurd rfl h
    · rw [if_neg q] at h; exact ⟨q, h⟩
  have dT : ∀ a t, t ≠ i → ow a = some t → dropOw ow p a = some t := by
    intro a t ht h
    unfold dropOw
    by_cases q : a = p
    · subst q; rw [hp] at h; exact absurd (Option.some.inj h).symm ht
    · rw [if_neg q]; exact h
  refine ⟨p, vs, rfl, hp, ⟨sF, fun a o _ h => h, fun a h => ?_, fun a h => .inl (dO a h).2, fun a t h1 h2 => dT a t (by omega) h1, fun a h => h⟩, ⟨fun a o h => ?_, fun a h => ?_, fun a h => R.trk a (dO a h).2, by rw [R.len, List.length_set], by rw [List.length_set]; exact R.lt, fun j e h => ?_, R.wld.own fun a t ht => ⟨fun h => ?_, fun h => dT a t (by omega) h⟩⟩, rp⟩
  · by_cases q : a = p
    · subst q; exact .inr (.inl (by rw [hp]; simp))
    · rw [upd_ne q] at h; exact .inl h
  · by_cases q : a = p
    · subst q; rw [upd_same] at h; rw [← h]; exact hH
    · rw [upd_ne q] at h; exact R.sub a o h
  · rw [upd_ne (dO a h).1]; exact R.dis a (dO a h).2
  · by_cases q : j = i
    · subst q
      rw [List.getElem?_set_self (idx_lt he)] at h
      cases h
      exact ⟨_, hv, rp⟩
    · rw [List.getElem?_set_ne (by omega)] at h
      obtain ⟨v2, h1, h2⟩ := R.slot j e h
      have := R.slt h
      exact ⟨v2, h1, h2.mono sF (fun a t h3 h4 => dT a t (by rcases h4 with h4 | h4 <;> (try unfold TS at h4) <;> (try unfold TT0 at hi) <;> omega) h3) fun a u _ z => z⟩
  · unfold dropOw at h
    by_cases q : a = p
    · rw [if_pos q] at h; cases h
    · rw [if_neg q] at h; exact h
def RW (K : PySem.W.Frag) (H0 F : Hp) (ow : Ow) (σ : St) (H : Hp) (v : V) : EV → Prop
  | .fz d => Rp K F v d
  | .bor i => σ[i]? = some (some v)
  | .lst ds => ∃ p vs, v = .ref p ∧ H0 p = none ∧ ow p = none ∧ H p = some (.lst vs) ∧ RpAll K F vs ds
  | .src => ∃ p, v = .ref p ∧ ow p = some TS
theorem RV.weak {v : V} {e : EV} (h : RV K H0 F ow σ H v e) : RW K H0 F ow σ H v e := by
  cases e with
  | fz d => exact h
  | bor i => exact h
  | lst ds => obtain ⟨p, vs, h1, h2, h3, h4, h5, h6⟩ := h; exact ⟨p, vs, h1, h2, h3, h5, h6⟩
  | src => exact h
/-- how owners may change where things are let go of -/
structure Lg (F : Hp) (ow : Ow) (F' : Hp) (ow' : Ow) : Prop where
  s : Same F F'
  n : ∀ a, ow a = none → ow' a = none
  t : ∀ a t, ow a = some t → TT0 ≤ t → ow' a = some t
theorem Lg.refl : Lg F ow F ow := ⟨Same.refl _, fun _ h => h, fun _ _ h _ => h⟩
theorem Lg.trans (a : Lg F ow F1 ow1) (b : Lg F1 ow1 F2 ow2) : Lg F ow F2 ow2 := ⟨a.s.trans b.s, fun x h => b.n x (a.n x h), fun x t h k => b.t x t (a.t x t h k) k⟩
theorem RW.lg {v : V} {e : EV} (h : RW K H0 F ow σ H v e) (l : Lg F ow F1 ow1) : RW K H0 F1 ow1 σ H v e := by
  cases e with
  | fz d => exact Rp.mono l.s d v h
  | bor i => exact h
  | lst ds => obtain ⟨p, vs, h1, h2, h3, h5, h6⟩ := h; exact ⟨p, vs, h1, h2, l.n p h3, h5, RpAll.mono l.s _ _ h6⟩
  | src => obtain ⟨p, h1, h2⟩ := h; exact ⟨p, h1, l.t p _ h2 (by decide)⟩
theorem esc1_ok {v : V} {e : EV} {d : PyData} (s : Stp F0 ow0 H0 F ow H) (R : Rel K F ow σ H env w) (h : RW K H0 F ow σ H v e) (he : esc1 env e = some (d, env')) :
    ∃ F' ow', Stp F0 ow0 H0 F' ow' H ∧ Rel K F' ow' σ H env' w ∧ Rp K F' v d ∧ Lg F ow F' ow' := by
  cases e with
  | fz d' => cases he; exact ⟨F, ow, s, R, h, .refl⟩
  | src => cases he
  | bor i =>
    simp only [esc1] at he
    split at he
    · rename_i ds hs
      cases he
      obtain ⟨p, vs, rfl, hp, s1, R1, r1⟩ := R.freeze hs h
      refine ⟨_, _, s.trans s1, R1, r1, s1.fz, fun a q => ?_, s1.tg⟩
      unfold dropOw
      split
      · rfl
      · exact q
    · rename_i d' hs
      cases he
      obtain ⟨v', e1, e2⟩ := R.slot i _ hs
      obtain rfl : v = v' := Option.some.inj (Option.some.inj ((show σ[i]? = some (some v) from h).symm.trans e1))
      exact ⟨F, ow, s, R, e2, .refl⟩
    · cases he
  | lst ds =>
    cases he
    obtain ⟨p, vs, rfl, h0, h1, h2, h3⟩ := h
    cases q : F p with
    | some o =>
      have := R.sub p o q
      rw [h2] at this
      cases this
      exact ⟨F, ow, s, R, .lst q h3, .refl⟩
    | none =>
      have sF : Same F (upd F p (.lst vs)) := Same.upd q
      refine ⟨upd F p (.lst vs), ow, ⟨s.fz.trans sF, s.fr, fun a h => ?_, s.nO, s.tg, s.tr⟩, ⟨fun a o h => ?_, fun a h => ?_, R.trk, R.len, R.lt, fun j e h => ?_, R.wld⟩, .lst upd_same (RpAll.mono sF _ _ h3), sF, fun _ h => h, fun _ _ h _ => h⟩
      · by_cases z : a = p
        · subst z; exact .inr (.inr h0)
        · rw [upd_ne z] at h; exact s.nF a h
      · by_cases z : a = p
        · subst z; rw [upd_same] at h; rw [← h]; exact h2
        · rw [upd_ne z] at h; exact R.sub a o h
      · rw [upd_ne (by intro z; subst z; exact h h1)]; exact R.dis a h
      · obtain ⟨v2, e1, e2⟩ := R.slot j e h
        exact ⟨v2, e1, e2.mono sF (fun _ _ h _ => h) fun _ _ _ z => z⟩
inductive RWs (K : PySem.W.Frag) (H0 F : Hp) (ow : Ow) (σ : St) (H : Hp) : List V → List EV → Prop
  | nil : RWs K H0 F ow σ H [] []
  | cons {v : V} {vs : List V} {e : EV} {es : List EV} : RW K H0 F ow σ H v e → RWs K H0 F ow σ H vs es → RWs K H0 F ow σ H (v :: vs) (e :: es)
theorem RWs.lg (l : Lg F ow F1 ow1) : ∀ {vs : List V} {es : List EV}, RWs K H0 F ow σ H vs es → RWs K H0 F1 ow1 σ H vs es
  | _, _, .nil => .nil
  | _, _, .cons a b => .cons (a.lg l) (RWs.lg l b)
theorem RVs.weak : ∀ {vs : List V} {es : List EV}, RVs K H0 F ow σ H vs es → RWs K H0 F ow σ H vs es
  | _, _, .nil => .nil
  | _, _, .cons a b => .cons a.weak (RVs.weak b)
theorem escD_ok : ∀ {es : List EV} {vs : List V} {ds : List PyData} {F : Hp} {ow : Ow} {env : Nv}, Stp F0 ow0 H0 F ow H → Rel K F ow σ H env w → RWs K H0 F ow σ H vs es → escD env es = some (ds, env') →
    ∃ F' ow', Stp F0 ow0 H0 F' ow' H ∧ Rel K F' ow' σ H env' w ∧ RpAll K F' vs ds ∧ Lg F ow F' ow'
  | [], _, _, F, ow, _, s, R, h, he => by
    cases h
    cases he
    exact ⟨F, ow, s, R, .nil, .refl⟩
  | e :: es, _, _, F, ow, env, s, R, h, he => by
    cases h with
    | cons a b =>
      simp only [escD] at he
      split at he
      · cases he
      · rename_i d e1 q
        split at he
        · cases he
        · rename_i ds e2 q2
          cases he
          obtain ⟨F1, ow1, s1, R1, r1, l1⟩ := esc1_ok s R a q
          obtain ⟨F2, ow2, s2, R2, r2, l2⟩ := escD_ok s1 R1 (b.lg l1) q2
          exact ⟨F2, ow2, s2, R2, .cons (Rp.mono l2.s _ _ r1) r2, l1.trans l2⟩
/-- arguments of a def -/
def AR (K : PySem.W.Frag) (F : Hp) (ow : Ow) (v : V) : EV → Prop
  | .fz d => Rp K F v d
  | .src => ∃ p, v = .ref p ∧ ow p = some TS
  | _ => False
theorem AR.lg {v : V} {e : EV} (h : AR K F ow v e) (l : Lg F ow F1 ow1) : AR K F1 ow1 v e := by
  cases e with
  | fz d => exact Rp.mono l.s d v h
  | src => obtain ⟨p, h1, h2⟩ := h; exact ⟨p, h1, l.t p _ h2 (by decide)⟩
  | bor i => exact h
  | lst ds => exact h
inductive ARs (K : PySem.W.Frag) (F : Hp) (ow : Ow) : List V → List EV → Prop
  | nil : ARs K F ow [] []
  | cons {v : V} {vs : List V} {e : EV} {es : List EV} : AR K F ow v e → ARs K F ow vs es → ARs K F ow (v :: vs) (e :: es)
theorem ARs.lg (l : Lg F ow F1 ow1) : ∀ {vs : List V} {es : List EV}, ARs K F ow vs es → ARs K F1 ow1 vs es
  | _, _, .nil => .nil
  | _, _, .cons a b => .cons (a.lg l) (ARs.lg l b)
theorem ARs.length : ∀ {vs : List V} {es : List EV}, ARs K F ow vs es → vs.length = es.length
  | _, _, .nil => rfl
  | _, _, .cons _ b => by simp [ARs.length b]
theorem escA_ne {env : Nv} {e : EV} {es : List EV} (h : e ≠ .src) : escA env (e :: es) = match esc1 env e with
    | none => none
    | some (d, e1) => match escA e1 es with
      | none => none
      | some (ds, e2) => some (.fz d :: ds, e2) := by
  cases e <;> first | rfl | exact absurd rfl h
theorem escA_ok : ∀ {es : List EV} {vs : List V} {ds : List EV} {F : Hp} {ow : Ow} {env : Nv}, Stp F0 ow0 H0 F ow H → Rel K F ow σ H env w → RWs K H0 F ow σ H vs es → escA env es = some (ds, env') →
    ∃ F' ow', Stp F0 ow0 H0 F' ow' H ∧ Rel K F' ow' σ H env' w ∧ ARs K F' ow' vs ds ∧ Lg F ow F' ow'
  | [], _, _, F, ow, _, s, R, h, he => by
    cases h
    cases he
    exact ⟨F, ow, s, R, .nil, .refl⟩
  | e :: es, _, _, F, ow, env, s, R, h, he => by
    cases h with
    | cons a b =>
      by_cases hs : e = .src
      · subst hs
        simp only [escA] at he
        split at he
        · cases he
        · rename_i ds e2 q2
          cases he
          obtain ⟨F2, ow2, s2, R2, r2, l2⟩ := escA_ok s R b q2
          obtain ⟨p, h1, h2⟩ := a
          exact ⟨F2, ow2, s2, R2, .cons ⟨p, h1, l2.t p _ h2 (by decide)⟩ r2, l2⟩
      · rw [escA_ne hs] at he
        split at he
        · cases he
        · rename_i d e1 q
          split at he
          · cases he
          · rename_i ds e2 q2
            cases he
            obtain ⟨F1, ow1, s1, R1, r1, l1⟩ := esc1_ok s R a q
            obtain ⟨F2, ow2, s2, R2, r2, l2⟩ := escA_ok s1 R1 (b.lg l1) q2
            exact ⟨F2, ow2, s2, R2, .cons (Rp.mono l2.s _ _ r1) r2, l1.trans l2⟩

/-! ### a slot's list changes; a slot is stored -/
theorem Rel.upL (R : Rel K F ow σ H env w) {i : Nat} {ds : List PyData} (he : env[i]? = some (some (.lst ds))) :
    ∃ p vs, σ[i]? = some (some (.ref p)) ∧ H p = some (.lst vs) ∧ RpAll K F vs ds ∧ ∀ vs' ds', RpAll K F vs' ds' → Rel K F ow σ (upd H p (.lst vs')) (env.set i (some (.lst ds'))) w ∧ Stp F ow H F ow (upd H p (.lst vs')) := by
  have hi := R.slt he
  obtain ⟨v', e1, p, vs, rfl, hp, hH, ha⟩ := R.slot i _ he
  have hF : F p = none := R.dis p (by rw [hp]; simp)
  refine ⟨p, vs, e1, hH, ha, fun vs' ds' ha' => ⟨⟨fun a o h => ?_, R.dis, fun a h => ?_, by rw [R.len, List.length_set], by rw [List.length_set]; exact R.lt, fun j e h => ?_, ?_⟩, Same.refl _, fun a o h1 h2 => ?_, fun a h => .inl h, fun a h => .inl h, fun _ _ h _ => h, fun a h => ?_⟩⟩
  · rw [upd_ne (by intro z; subst z; rw [hF] at h; cases h)]; exact R.sub a o h
  · by_cases z : a = p
    · subst z; rw [upd_same]; simp
    · rw [upd_ne z]; exact R.trk a h
  · by_cases q : j = i
    · subst q
      rw [List.getElem?_set_self (idx_lt he)] at h
      cases h
      exact ⟨_, e1, p, vs', rfl, hp, upd_same, ha'⟩
    · rw [List.getElem?_set_ne (by omega)] at h
      obtain ⟨v2, h1, h2⟩ := R.slot j e h
      refine ⟨v2, h1, h2.mono (Same.refl _) (fun _ _ h _ => h) fun a u h3 h4 => ?_⟩
      rw [upd_ne (by intro z; subst z; rw [hp] at h3; exact q (Option.some.inj h3).symm)]
      exact h4
  · have hW := R.wld
    have key : ∀ a t, TT0 ≤ t → ow a = some t → a ≠ p := by
      intro a t ht h z
      subst z
      rw [hp] at h
      have := Option.some.inj h
      omega
    cases w with
    | none => exact hW
    | some s =>
      obtain ⟨a, c, h1, h2, h3, h4, h5⟩ := hW
      exact ⟨a, c, h1, h2, h3, h4, by rw [upd_ne (key a _ (by decide) h1)]; exact h5.d, by rw [upd_ne (key c _ (by decide) h2)]; exact h5.l⟩
  · rw [upd_ne (by intro z; subst z; rw [hp] at h1; cases h1)]; exact h2
  · by_cases z : a = p
    · subst z; rw [upd_same]; simp
    · rw [upd_ne z]; exact h
theorem set_at {α : Type} {l : List α} {i j : Nat} {x y : α} (h : (l.set i x)[j]? = some y) : (j = i ∧ y = x ∧ i < l.length) ∨ (j ≠ i ∧ l[j]? = some y) := by
  by_cases q : j = i
  · subst q
    have := idx_lt h
    rw [List.length_set] at this
    rw [List.getElem?_set_self this] at h
    exact .inl ⟨rfl, (Option.some.inj h).symm, this⟩
  · rw [List.getElem?_set_ne (by omega)] at h
    exact .inr ⟨q, h⟩
theorem Rel.setD (R : Rel K F ow σ H env w) {i : Nat} {d : PyData} {v : V} (r : Rp K F v d) : Rel K F ow (σ.set i (some v)) H (env.set i (some (.fz d))) w := by
  refine ⟨R.sub, R.dis, R.trk, by rw [List.length_set, List.length_set, R.len], by rw [List.length_set]; exact R.lt, fun j e h => ?_, R.wld⟩
  rcases set_at h with ⟨rfl, h1, h2⟩ | ⟨h1, h2⟩
  · cases h1
    exact ⟨v, by rw [List.getElem?_set_self (by rw [R.len]; exact h2)], r⟩
  · obtain ⟨v2, e1, e2⟩ := R.slot j e h2
    exact ⟨v2, by rw [List.getElem?_set_ne (by omega)]; exact e1, e2⟩
theorem Rel.setS (R : Rel K F ow σ H env w) {i : Nat} {p : Addr} (r : ow p = some TS) : Rel K F ow (σ.set i (some (.ref p))) H (env.set i (some .src)) w := by
  refine ⟨R.sub, R.dis, R.trk, by rw [List.length_set, List.length_set, R.len], by rw [List.length_set]; exact R.lt, fun j e h => ?_, R.wld⟩
  rcases set_at h with ⟨rfl, h1, h2⟩ | ⟨h1, h2⟩
  · cases h1
    exact ⟨.ref p, by rw [List.getElem?_set_self (by rw [R.len]; exact h2)], p, rfl, r⟩
  · obtain ⟨v2, e1, e2⟩ := R.slot j e h2
    exact ⟨v2, by rw [List.getElem?_set_ne (by omega)]; exact e1, e2⟩
def giveOw (ow : Ow) (p : Addr) (i : Nat) : Ow := fun a => if a = p then some i else ow a
theorem Rel.setL (s : Stp F0 ow0 H0 F ow H) (R : Rel K F ow σ H env w) {i : Nat} {ds : List PyData} {v : V} (hi : i < env.length) (r : RV K H0 F ow σ H v (.lst ds)) :
    ∃ p, v = .ref p ∧ ow p = none ∧ Stp F0 ow0 H0 F (giveOw ow p i) H ∧ Rel K F (giveOw ow p i) (σ.set i (some v)) H (env.set i (some (.lst ds))) w := by
  obtain ⟨p, vs, rfl, h0, h1, h2, h3, h4⟩ := r
  have iT : i < TT0 := Nat.lt_of_lt_of_le hi R.lt
  have gk : ∀ a t, ow a = some t → giveOw ow p i a = some t := by
    intro a t h
    unfold giveOw
    rw [if_neg (by intro z; subst z; rw [h1] at h; cases h)]
    exact h
  have gn : ∀ a, giveOw ow p i a ≠ none → a = p ∨ ow a ≠ none := by
    intro a h
    unfold giveOw at h
    by_cases z : a = p
    · exact .inl z
    · rw [if_neg z] at h; exact .inr h
  refine ⟨p, rfl, h1, ⟨s.fz, s.fr, s.nF, fun a h => ?_, fun a t h1 h2 => gk a t (s.tg a t h1 h2), s.tr⟩, R.sub, fun a h => ?_, fun a h => ?_, by rw [List.length_set, List.length_set, R.len], by rw [List.length_set]; exact R.lt, fun j e h => ?_, R.wld.own fun a t ht => ⟨fun h => ?_, gk a t⟩⟩
  · rcases gn a h with rfl | h
    · exact .inr h0
    · exact s.nO a h
  · rcases gn a h with rfl | h
    · exact h2
    · exact R.dis a h
  · rcases gn a h with rfl | h
    · rw [h3]; simp
    · exact R.trk a h
  · rcases set_at h with ⟨rfl, q1, q2⟩ | ⟨q1, q2⟩
    · cases q1
      exact ⟨.ref p, by rw [List.getElem?_set_self (by rw [R.len]; exact q2)], p, vs, rfl, by unfold giveOw; rw [if_pos rfl], h3, h4⟩
    · obtain ⟨v2, e1, e2⟩ := R.slot j e q2
      exact ⟨v2, by rw [List.getElem?_set_ne (by omega)]; exact e1, e2.mono (Same.refl _) (fun a t h _ => gk a t h) fun _ _ _ z => z⟩
  · unfold giveOw at h
    by_cases z : a = p
    · rw [if_pos z] at h
      have := Option.some.inj h
      omega
    · rw [if_neg z] at h; exact h

/-! ### a block's own names -/
theorem Rel.unset (R : Rel K F ow σ H env w) (i : Nat) (v : Option V) : Rel K F ow (σ.set i v) H (env.set i none) w := by
  refine ⟨R.sub, R.dis, R.trk, by rw [List.length_set, List.length_set, R.len], by rw [List.length_set]; exact R.lt, fun j e h => ?_, R.wld⟩
  rcases set_at h with ⟨rfl, h1, h2⟩ | ⟨h1, h2⟩
  · cases h1
  · obtain ⟨v2, e1, e2⟩ := R.slot j e h2
    exact ⟨v2, by rw [List.getElem?_set_ne (by omega)]; exact e1, e2⟩
theorem Rel.wipe (R : Rel K F ow σ H env w) : ∀ vs : List Nat, Rel K F ow (L2.wipe σ vs) H (wipeE env vs) w
  | [] => R
  | v :: vs => (Rel.wipe R vs).unset v none
theorem keepE_at {env0 env : Nv} {i : Nat} {e : EV} : ∀ {vs : List Nat}, (keepE env0 env vs)[i]? = some (some e) → (i ∈ vs ∧ env0[i]? = some (some e) ∧ ∃ d, e = .fz d) ∨ (i ∉ vs ∧ env[i]? = some (some e))
  | [], h => .inr ⟨by simp, h⟩
  | v :: vs, h => by
    rcases set_at h with ⟨rfl, h1, h2⟩ | ⟨h1, h2⟩
    · refine .inl ⟨by simp, ?_⟩
      split at h1
      · rename_i d q
        cases h1
        exact ⟨q, d, rfl⟩
      · cases h1
    · rcases keepE_at h2 with ⟨q1, q2⟩ | ⟨q1, q2⟩
      · exact .inl ⟨by simp [q1], q2⟩
      · exact .inr ⟨by simp [q1, h1], q2⟩
theorem keepE_length {env0 env : Nv} : ∀ {vs : List Nat}, (keepE env0 env vs).length = env.length
  | [] => rfl
  | v :: vs => by simp only [keepE, List.length_set]; exact keepE_length
/-- behind a block: its own names tell what they told ahead -/
theorem Rel.keep {σ2 : St} {env0 : Nv} {vs : List Nat} {w0 : Wd} (R0 : Rel K F0 ow0 σ H0 env0 w0) (s : Same F0 F) (R : Rel K F ow σ2 H env w) (hs : L2.wipe σ2 vs = L2.wipe σ vs) : Rel K F ow σ H (keepE env0 env vs) w := by
  have hl : σ2.length = σ.length := by have := congrArg List.length hs; rwa [wipe_length, wipe_length] at this
  refine ⟨R.sub, R.dis, R.trk, by rw [keepE_length, ← R.len, hl], by rw [keepE_length]; exact R.lt, fun j e h => ?_, R.wld⟩
  rcases keepE_at h with ⟨h1, h2, d, rfl⟩ | ⟨h1, h2⟩
  · obtain ⟨v, e1, e2⟩ := R0.slot j _ h2
    exact ⟨v, e1, Rp.mono s _ _ e2⟩
  · obtain ⟨v, e1, e2⟩ := R.slot j e h2
    refine ⟨v, ?_, e2⟩
    rw [← wipe_out h1] at e1 ⊢
    rw [← hs]
    exact e1
/-- an object that nobody owns and that is not frozen changes -/
theorem Rel.updT (R : Rel K F ow σ H env w) (s : Stp F0 ow0 H0 F ow H) {p : Addr} {o : HO} (h0 : H0 p = none) (h1 : ow p = none) (h2 : F p = none) : Rel K F ow σ (upd H p o) env w ∧ Stp F0 ow0 H0 F ow (upd H p o) := by
  have kk : ∀ a u, ow a ≠ none → H a = some u → upd H p o a = some u := fun a u h q => by rw [upd_ne (by intro z; subst z; exact h h1)]; exact q
  refine ⟨⟨fun a u h => ?_, R.dis, fun a h => ?_, R.len, R.lt, fun i e h => ?_, R.wld.mono kk⟩, s.fz, fun a u q1 q2 => ?_, s.nF, s.nO, s.tg, fun a h => ?_⟩
  · rw [upd_ne (by intro z; subst z; rw [h2] at h; cases h)]; exact R.sub a u h
  · rw [upd_ne (by intro z; subst z; exact h h1)]; exact R.trk a h
  · obtain ⟨v, e1, e2⟩ := R.slot i e h
    exact ⟨v, e1, e2.mono (Same.refl _) (fun _ _ q _ => q) fun a u q1 q2 => kk a u (by rw [q1]; simp) q2⟩
  · rw [upd_ne (by intro z; subst z; rw [h0] at q2; cases q2)]; exact s.fr a u q1 q2
  · by_cases z : a = p
    · subst z; rw [upd_same]; simp
    · rw [upd_ne z]; exact s.tr a h
end
end DL

set_option Elab.async false
set_option linter.all false
set_option maxRecDepth 100000
set_option maxHeartbeats 2000000
set_option autoImplicit false
namespace DL
open PySem PySem.Spec L2

def Give (K : PySem.W.Frag) (F H : Hp) (z : EV) (Q : VK) : Prop := ∀ v F' H', Mk K F H z v F' H' → Q v H'
section
variable {K : PySem.W.Frag} {F H : Hp} {Q : VK}
theorem Give.int {i : Int} (g : Give K F H (.fz (.int i)) Q) : Q (.int i) H := g _ _ _ (.old (.int i))
theorem Give.bl {b : Bool} (g : Give K F H (.fz (.bool b)) Q) : Q (.bl b) H := g _ _ _ (.old (.bl b))
theorem Give.str {b : Str} (g : Give K F H (.fz (.str b)) Q) : Q (.str b) H := g _ _ _ (.old (.str b))
theorem Give.old {v : V} {d : PyData} (g : Give K F H (.fz d) Q) (r : Rp K F v d) : Q v H := g _ _ _ (.old r)
theorem Give.tup {vs : List V} {ds : List PyData} (g : Give K F H (.fz (.tuple ds)) Q) (r : RpAll K F vs ds) : ∀ p, H p = none → Q (.ref p) (upd H p (.tup vs)) := fun p hp => g _ _ _ (.tup hp r)
theorem Give.lst {vs : List V} {ds : List PyData} (g : Give K F H (.lst ds) Q) (r : RpAll K F vs ds) : ∀ p, H p = none → Q (.ref p) (upd H p (.lst vs)) := fun p hp => g _ _ _ (.lst hp r)

theorem DV.tup {v : V} {ds : List PyData} (s : Same F H) (h : DV K F H v (.tuple ds)) : ∃ a xs, v = .ref a ∧ SqT K H a xs ∧ RpAll K F xs ds := by
  cases (show Rp K F v (.tuple ds) from h) with
  | tup q a => exact ⟨_, _, rfl, Same.seqT s q, a⟩
theorem DV.lst {v : V} {ds : List PyData} (h : DV K F H v (.list ds)) : ∃ a xs, v = .ref a ∧ H a = some (.lst xs) ∧ RpAll K F xs ds := h
theorem DV.int {v : V} {i : Int} (h : DV K F H v (.int i)) : v = .int i := by
  cases (show Rp K F v (.int i) from h); rfl
theorem DV.bl {v : V} {b : Bool} (h : DV K F H v (.bool b)) : v = .bl b := by
  cases (show Rp K F v (.bool b) from h); rfl
theorem DV.str {v : V} {b : Str} (h : DV K F H v (.str b)) : v = .str b := by
  cases (show Rp K F v (.str b) from h); rfl
theorem DV.non {v : V} (h : DV K F H v .none) : v = .non := by
  cases (show Rp K F v .none from h); rfl
end

/-! ### two places -/
def rBin (K : PySem.W.Frag) (op : PyData → PyData → Option EV) : R2 := fun x y H Q => ∃ F d e z, Same F H ∧ DV K F H x d ∧ DV K F H y e ∧ op d e = some z ∧ Give K F H z Q
section
variable {X : Cx} {a b c : Expr} {ta tb tc : TE} {pos : Pos}
theorem ob_add : OpR X (binaryOp .Add) (rBin X.K (binD .add)) := by
  rintro pins s σ H x y v u Q I rx ry ⟨F, d, e, z, sF, hx, hy, hz, g⟩
  match d, e, hz, hx, hy with
  | .int i, .int j, hz, hx, hy =>
    cases hz
    exact op_add pins s σ H x y v u Q I rx ry ⟨i, j, hx.int, hy.int, g.int⟩
  | .str i, .str j, hz, hx, hy =>
    simp only [binD] at hz
    split at hz
    · rename_i hl
      cases hz
      exact op_add_str pins s σ H x y v u Q I rx ry ⟨i, j, hx.str, hy.str, hl, g.str⟩
    · cases hz
  | .tuple xs, .tuple ys, hz, hx, hy =>
    simp only [binD] at hz
    split at hz
    · rename_i hl
      cases hz
      obtain ⟨p, us, rfl, h1, h2⟩ := hx.tup sF
      obtain ⟨p', us', rfl, h1', h2'⟩ := hy.tup sF
      refine op_catA pins s σ H _ _ v u Q I rx ry ⟨p, p', us, us', rfl, rfl, h1, h1', by rw [h2.length, h2'.length]; exact hl, fun e => ?_, fun _ e => ?_, fun _ _ => g.tup (h2.append h2')⟩
      · subst e
        cases h2
        exact g.old hy
      · subst e
        cases h2'
        rw [List.append_nil] at g
        exact g.old hx
    · cases hz
  | .list xs, .list ys, hz, hx, hy =>
    simp only [binD] at hz
    split at hz
    · rename_i hl
      cases hz
      obtain ⟨p, us, rfl, h1, h2⟩ := hx.lst
      obtain ⟨p', us', rfl, h1', h2'⟩ := hy.lst
      exact op_cat pins s σ H _ _ v u Q I rx ry ⟨p, p', us, us', rfl, rfl, h1, h1', by rw [h2.length, h2'.length]; exact hl, g.lst (h2.append h2')⟩
    · cases hz
theorem ob_sub : OpR X (binaryOp .Sub) (rBin X.K (binD .sub)) := by
  rintro pins s σ H x y v u Q I rx ry ⟨F, d, e, z, sF, hx, hy, hz, g⟩
  match d, e, hz, hx, hy with
  | .int i, .int j, hz, hx, hy =>
    cases hz
    exact op_sub pins s σ H x y v u Q I rx ry ⟨i, j, hx.int, hy.int, g.int⟩
theorem ob_mul : OpR X (binaryOp .Mult) (rBin X.K (binD .mul)) := by
  rintro pins s σ H x y v u Q I rx ry ⟨F, d, e, z, sF, hx, hy, hz, g⟩
  match d, e, hz, hx, hy with
  | .int i, .int j, hz, hx, hy =>
    simp only [binD] at hz
    split at hz
    · rename_i hl
      cases hz
      exact op_mulW pins s σ H x y v u Q I rx ry ⟨i, j, hx.int, hy.int, hl, g.int⟩
    · cases hz
  | .list xs, .int k, hz, hx, hy =>
    simp only [binD] at hz
    split at hz
    · rename_i hl
      cases hz
      obtain ⟨h1', h2', hz⟩ := hl
      obtain ⟨l, us, rfl, h1, h2⟩ := hx.lst
      obtain rfl := hy.int
      exact op_rep pins s σ H _ _ v u Q I rx ry ⟨l, k, us, rfl, rfl, h1, h1', h2', by rw [h2.length]; exact hz, g.lst (h2.repl _)⟩
    · cases hz
theorem ob_fdiv : OpR X (binaryOp .FloorDiv) (rBin X.K (binD .fdiv)) := by
  rintro pins s σ H x y v u Q I rx ry ⟨F, d, e, z, sF, hx, hy, hz, g⟩
  match d, e, hz, hx, hy with
  | .int i, .int j, hz, hx, hy =>
    simp only [binD] at hz
    split at hz
    · rename_i hl
      cases hz
      exact op_fdivW pins s σ H x y v u Q I rx ry ⟨i, j, hx.int, hy.int, hl, g.int⟩
    · cases hz
theorem ob_mod : OpR X (binaryOp .Mod) (rBin X.K (binD .mod)) := by
  rintro pins s σ H x y v u Q I rx ry ⟨F, d, e, z, sF, hx, hy, hz, g⟩
  match d, e, hz, hx, hy with
  | .int i, .int j, hz, hx, hy =>
    simp only [binD] at hz
    split at hz
    · rename_i hl
      cases hz
      exact op_mod pins s σ H x y v u Q I rx ry ⟨i, j, hx.int, hy.int, hl, g.int⟩
    · cases hz
theorem ob_pow : OpR X (binaryOp .Pow) (rBin X.K (binD .pow)) := by
  rintro pins s σ H x y v u Q I rx ry ⟨F, d, e, z, sF, hx, hy, hz, g⟩
  match d, e, hz, hx, hy with
  | .int i, .int j, hz, hx, hy =>
    simp only [binD] at hz
    split at hz
    · rename_i hl
      cases hz
      exact op_pow pins s σ H x y v u Q I rx ry ⟨i, j, hx.int, hy.int, hl, g.int⟩
    · cases hz
theorem ob_any (op : Bop) : OpR X (binaryOp (bopOf op)) (rBin X.K (binD op)) := by
  cases op
  · exact ob_add
  · exact ob_sub
  · exact ob_mul
  · exact ob_fdiv
  · exact ob_mod
  · exact ob_pow

/-! ### comparisons -/
def cmpE (op : Cop) (d e : PyData) : Option EV := (cmpD op d e).map fun c => .fz (.bool c)
theorem oc_in {x : V} {v : Value} {y : V} {u : Value} {pins : List (Addr × Obj)} {s : Shared} {σ : St} {H F : Hp} {d : PyData} {ds : List PyData} (I : Inv X pins σ H s) (rx : RelV x v) (ry : RelV y u) (sF : Same F H) (hx : DV X.K F H x d) :
    (DV X.K F H y (.list ds) → ∃ as bs, Reads s.heap v d as ∧ Reads s.heap u (.list ds) bs) ∧ (DV X.K F H y (.tuple ds) → ∃ as bs, Reads s.heap v d as ∧ Reads s.heap u (.tuple ds) bs) := by
  obtain ⟨as, r1⟩ := Rp.reads I d x v (hx.rp sF) rx
  refine ⟨fun h => ?_, fun h => ?_⟩
  · obtain ⟨bs, r2⟩ := Rp.reads I _ y u (h.rp sF) ry
    exact ⟨as, bs, r1, r2⟩
  · obtain ⟨bs, r2⟩ := Rp.reads I _ y u (h.rp sF) ry
    exact ⟨as, bs, r1, r2⟩
theorem shaped_items {ds : List PyData} (h : SeqAt.shaped (.list ds) = true ∨ SeqAt.shaped (.tuple ds) = true) : PyData.canLayAll0 ds = true := by
  rcases h with h | h
  · have := SeqAt.canLay_of_shaped h
    simpa [PyData.canLay0] using this
  · have := SeqAt.canLay_of_shaped h
    simpa [PyData.canLay0] using this
theorem isn_of {K : PySem.W.Frag} {x : V} {d : PyData} {F H : Hp} (sF : Same F H) (hx : DV K F H x d) : decide (x = V.non) = (match d with | .none => true | _ => false) := by
  have h := hx.rp sF
  cases h <;> simp
theorem oc_any (hu : X.A.units + 65 < cLine) (op : Cop) : OpR X (compareOp (copOf op)) (rBin X.K (cmpE op)) := by
  rintro pins s σ H x y v u Q I rx ry ⟨F, d, e, z, sF, hx, hy, hz, g⟩
  unfold cmpE at hz
  cases hc : cmpD op d e with
  | none => rw [hc] at hz; cases hz
  | some b =>
    rw [hc] at hz
    cases hz
    have q := g.bl
    have rd := fun ds => oc_in (ds := ds) I rx ry sF hx
    cases op with
    | lt =>
      match d, e, hc, hx, hy with
      | .int i, .int j, hc, hx, hy =>
        cases hc
        exact op_lt pins s σ H x y v u Q I rx ry ⟨i, j, hx.int, hy.int, q⟩
    | le =>
      match d, e, hc, hx, hy with
      | .int i, .int j, hc, hx, hy =>
        cases hc
        exact op_le pins s σ H x y v u Q I rx ry ⟨i, j, hx.int, hy.int, q⟩
    | gt =>
      match d, e, hc, hx, hy with
      | .int i, .int j, hc, hx, hy =>
        cases hc
        exact op_gt pins s σ H x y v u Q I rx ry ⟨i, j, hx.int, hy.int, q⟩
    | ge =>
      match d, e, hc, hx, hy with
      | .int i, .int j, hc, hx, hy =>
        cases hc
        exact op_ge pins s σ H x y v u Q I rx ry ⟨i, j, hx.int, hy.int, q⟩
    | eq =>
      simp only [cmpD] at hc
      split at hc
      · rename_i ok
        cases hc
        unfold okEq at ok
        rw [Bool.and_eq_true] at ok
        obtain ⟨as, r1⟩ := Rp.reads I d x v (hx.rp sF) rx
        obtain ⟨bs, r2⟩ := Rp.reads I e y u (hy.rp sF) ry
        exact SeqAt.compareEq_shaped r1 r2 ok.1 ok.2 (by omega) ⟨.bl _, H, I, rfl, q⟩
      · cases hc
    | ne =>
      simp only [cmpD] at hc
      split at hc
      · rename_i ok
        cases hc
        unfold okEq at ok
        rw [Bool.and_eq_true] at ok
        obtain ⟨as, r1⟩ := Rp.reads I d x v (hx.rp sF) rx
        obtain ⟨bs, r2⟩ := Rp.reads I e y u (hy.rp sF) ry
        exact SeqAt.compareNe_shaped r1 r2 ok.1 ok.2 (by omega) ⟨.bl _, H, I, rfl, q⟩
      · cases hc
    | isin =>
      match e, hc, hy with
      | .list ds, hc, hy =>
        simp only [cmpD] at hc
        split at hc
        · rename_i ok
          cases hc
          unfold okEq at ok
          rw [Bool.and_eq_true] at ok
          obtain ⟨as, bs, r1, r2⟩ := (rd ds).1 hy
          exact SeqAt.in_list_reads r2 r1 (shaped_items (.inl ok.2)) (SeqAt.canLay_of_shaped ok.1) (PyProof.Rows.room_in_shaped ok.1 hu) ⟨.bl _, H, I, rfl, q⟩
        · cases hc
      | .tuple ds, hc, hy =>
        simp only [cmpD] at hc
        split at hc
        · rename_i ok
          cases hc
          unfold okEq at ok
          rw [Bool.and_eq_true] at ok
          obtain ⟨as, bs, r1, r2⟩ := (rd ds).2 hy
          exact SeqAt.in_tuple_reads r2 r1 (shaped_items (.inr ok.2)) (SeqAt.canLay_of_shaped ok.1) (PyProof.Rows.room_in_shaped ok.1 hu) ⟨.bl _, H, I, rfl, q⟩
        · cases hc
    | notin =>
      match e, hc, hy with
      | .list ds, hc, hy =>
        simp only [cmpD] at hc
        split at hc
        · rename_i ok
          cases hc
          unfold okEq at ok
          rw [Bool.and_eq_true] at ok
          obtain ⟨as, bs, r1, r2⟩ := (rd ds).1 hy
          exact SeqAt.notIn_list_reads r2 r1 (shaped_items (.inl ok.2)) (SeqAt.canLay_of_shaped ok.1) (PyProof.Rows.room_in_shaped ok.1 hu) ⟨.bl _, H, I, rfl, q⟩
        · cases hc
      | .tuple ds, hc, hy =>
        simp only [cmpD] at hc
        split at hc
        · rename_i ok
          cases hc
          unfold okEq at ok
          rw [Bool.and_eq_true] at ok
          obtain ⟨as, bs, r1, r2⟩ := (rd ds).2 hy
          exact SeqAt.notIn_tuple_reads r2 r1 (shaped_items (.inr ok.2)) (SeqAt.canLay_of_shaped ok.1) (PyProof.Rows.room_in_shaped ok.1 hu) ⟨.bl _, H, I, rfl, q⟩
        · cases hc
    | isn =>
      match e, hc, hy with
      | .none, hc, hy =>
        simp only [cmpD, Option.some.injEq] at hc
        obtain rfl := hy.non
        cases ry
        refine PyProof.Rows.is_none_gen ⟨.bl _, H, I, ?_, q⟩
        show _ = Value.bool b
        rw [rx.none_iff, isn_of sF hx, ← hc]
        cases d <;> rfl
    | notn =>
      match e, hc, hy with
      | .none, hc, hy =>
        simp only [cmpD, Option.some.injEq] at hc
        obtain rfl := hy.non
        cases ry
        refine PyProof.Rows.isnot_none_gen ⟨.bl _, H, I, ?_, q⟩
        show _ = Value.bool b
        rw [rx.none_iff, isn_of sF hx, ← hc]
        cases d <;> rfl

/-! ### items, slices -/
theorem RpAll.atI {K : PySem.W.Frag} {F : Hp} {vs : List V} {ds : List PyData} {i : Int} {d : PyData} (h : RpAll K F vs ds) (e : L2.atI ds i = some d) : ∃ v, L2.atI vs i = some v ∧ Rp K F v d := by
  unfold L2.atI at e ⊢
  rw [h.length]
  cases q : ixN ds.length i with
  | none => rw [q] at e; cases e
  | some j =>
    rw [q] at e
    exact h.get e
def subE (d e : PyData) : Option EV := (subD d e).map .fz
theorem ox_any : IxR X (rBin X.K subE) := by
  rintro a b pins s σ H x y v u Q I rx ry ⟨F, d, e, z, sF, hx, hy, hz, g⟩ hs
  match d, e, hz, hx, hy with
  | .list ds, .int i, hz, hx, hy =>
    simp only [subE, subD] at hz
    cases q : L2.atI ds i with
    | none => rw [q] at hz; cases hz
    | some d =>
      rw [q] at hz
      cases hz
      obtain ⟨p, vs, rfl, h1, h2⟩ := hx.lst
      obtain ⟨v', h3, h4⟩ := h2.atI q
      exact ix_list a b pins s σ H _ y v u Q I rx ry ⟨p, vs, i, v', rfl, hy.int, SqL.of h1, h3, g.old h4⟩ hs
  | .tuple ds, .int i, hz, hx, hy =>
    simp only [subE, subD] at hz
    cases q : L2.atI ds i with
    | none => rw [q] at hz; cases hz
    | some d =>
      rw [q] at hz
      cases hz
      obtain ⟨p, vs, rfl, h1, h2⟩ := hx.tup sF
      obtain ⟨v', h3, h4⟩ := h2.atI q
      exact ix_tup a b pins s σ H _ y v u Q I rx ry ⟨p, vs, i, v', rfl, hy.int, h1, h3, g.old h4⟩ hs
def rSlc (K : PySem.W.Frag) : V → Option Int → Option Int → Hp → VK → Prop := fun x lo hi H Q => ∃ F d z, Same F H ∧ DV K F H x d ∧ slcD d lo hi = some z ∧ Give K F H z Q
theorem cut_rp {K : PySem.W.Frag} {F : Hp} {vs : List V} {ds : List PyData} {lo hi : Option Int} (h : RpAll K F vs ds) : RpAll K F (cutV vs lo hi) (cutD ds lo hi) := by
  unfold cutV cutD
  rw [h.length]
  exact (h.drop _).take _
theorem os_any : SlR X (rSlc X.K) := by
  rintro pins s σ H x v vl vu lo hi sl Q I rx hs pl pu ⟨F, d, z, sF, hx, hz, g⟩
  match d, hz, hx with
  | .list ds, hz, hx =>
    cases hz
    obtain ⟨p, vs, rfl, h1, h2⟩ := hx.lst
    exact sl_list pins s σ H _ v vl vu lo hi sl Q I rx hs pl pu ⟨p, vs, rfl, SqL.of h1, g.lst (cut_rp h2)⟩
  | .tuple ds, hz, hx =>
    cases hz
    obtain ⟨p, vs, rfl, h1, h2⟩ := hx.tup sF
    refine sl_tupA pins s σ H _ v vl vu lo hi sl Q I rx hs pl pu ⟨p, vs, rfl, h1, fun e => ?_, fun _ => g.tup (cut_rp h2)⟩
    refine g.old ?_
    have : cutD ds lo hi = ds := by
      unfold cutD
      rw [h2.length] at e
      rw [e.1, e.2]
      simp
    rw [this]
    exact hx
end
end DL

set_option Elab.async false
set_option linter.all false
set_option maxRecDepth 100000
set_option maxHeartbeats 2000000
set_option autoImplicit false
namespace DLS
open PySem PySem.Spec PyProof.Rows PySem.W
section
variable {prog : Program} {w : World} {A : Around} {E : Value → Shared → Prop} {s : Shared}
/-- the items of a tuple on a new list -/
theorem collect_tup {l : Addr} {vs : List Value} {Q : List Value → Shared → Prop} (hl : s.heap.IsTuple l vs.toArray)
    (h : Q vs { s with heap := (s.heap.push (seqObj "list" #[] 0)).update s.heap.objs.size (Obj.mapSeq (· ++ vs.toArray)) }) (hz : vs.length ≤ sizeLine) :
    wpAny (model prog w) A (collect (.ref l)) Q E s := by
  obtain ⟨o, ho, hc, n, hd⟩ := id hl
  unfold collect
  refine wpAny_bind (wpAny_runValue (codeAny_builtin entry_proto_collect' ?_))
  show wpAny _ _ (do again (.builtin "list.__iadd__" ⟨[← newList [], .ref l], []⟩)) _ _ s
  refine wpAny_bind (wpAny_newList (wpAny_pure ⟨Code.quiet_builtin _ (by decide +kernel), codeAny_builtin entry_list_iadd' ?_⟩))
  show wpAny _ _ (Builtin.List.listExtendWith (.ref s.heap.objs.size) (.ref l) (.ref s.heap.objs.size)) _ _ { s with heap := s.heap.push (seqObj "list" #[] 0) }
  unfold Builtin.List.listExtendWith
  have ho' : (s.heap.push (seqObj "list" #[] 0)).get? l = some o := Heap.get?_push_of_some _ ho
  refine wpAny_bind (wpAny_typeOf (T := "tuple") ⟨o, ho', hc⟩ ?_)
  rw [if_pos (by rw [show (Value.type "tuple" == Value.type "tuple") = true from rfl, Bool.or_true])]
  refine wpAny_bind (listItems_at ho' hd ?_)
  refine wpAny_bind (listItems_at (xs := #[]) (n := 0) (Heap.get?_push_size _ rfl) rfl ?_)
  rw [if_neg (by simp)]
  refine wpAny_bind (listUpdate_at (xs := #[]) (n := 0) (Heap.get?_push_size _ rfl) rfl ?_ (Nat.zero_le _) (by show (#[] ++ vs.toArray).size ≤ sizeLine + 1; simp only [Array.size_append, List.size_toArray, List.length_nil]; omega))
  refine wpAny_pure ?_
  show wpAny (model prog w) A (do
      let o ← load s.heap.objs.size
      match o.data with
      | .seq xs _ => pure xs.toList
      | _ => unsupported "internal:collect") Q E { s with heap := (s.heap.push (seqObj "list" #[] 0)).update s.heap.objs.size (Obj.mapSeq (· ++ vs.toArray)) }
  refine wpAny_bind (wpAny_load (get?_update_seq (Heap.get?_push_size _ rfl) _) ?_)
  show wpAny _ _ (pure ((#[] : Array Value) ++ vs.toArray).toList) Q E _
  rw [show ((#[] : Array Value) ++ vs.toArray).toList = vs by simp]
  exact wpAny_pure h
/-- sorted of a tuple: its items on a new list, which is then sorted -/
theorem sorted_tupD {l : Addr} {vs : List Value} {β : Type} {bs : List β} {enc : β → PyData} {R : Value → β → Prop} {Q : Value → Shared → Prop} (hl : s.heap.IsTuple l vs.toArray) (e : EachIs R vs bs)
    (er : EachIs (fun v b => ∃ as, Reads s.heap v (enc b) as) vs bs) (hal : AllAlike (bs.map enc)) (hk : Sortable (bs.map enc)) (hL : bs.length ≤ sizeLine) (hu : ∀ b, b ∈ bs → A.units + 2 + (enc b).depth < cLine)
    (q : ∀ out, out.length = bs.length → EachIs R out (bs.mergeSort (dataLe false enc)) → Q (.ref (s.heap.objs.size + 1)) { s with heap := sortedAll s.heap vs (List.toArray out) }) :
    wpAny (model prog w) A (call (.builtin "sorted") [.ref l]) Q E s := by
  have hz : vs.length ≤ sizeLine := by rw [e.length]; exact hL
  have er2 : EachIs (fun v b => ∃ as, Reads (sortingHeap (copyHeap s.heap vs) (s.heap.objs.size + 1) vs) v (enc b) as) vs bs := er.mono fun _ _ ⟨as, r⟩ => ⟨as, PyProof.Rows.Reads.keeps (fun _ _ => sorting_copy_old) r⟩
  have S := SortsAt.data (prog := prog) (w := w) (A := A.in1.in1) (s := { s with heap := sortingHeap (copyHeap s.heap vs) (s.heap.objs.size + 1) vs }) (each_map (R := fun v d => ∃ as, Reads (sortingHeap (copyHeap s.heap vs) (s.heap.objs.size + 1) vs) v d as) enc er2) hal hk (bound_map hu)
  have fin := q _ (by rw [sortVals_length false rfl]; exact e.length) (sortVals_data false e er2 hal)
  refine call_function_entry_kw kind_sorted plain_sorted entry_sorted (args_sorted1 _) ?_
  unfold Builtin.«sorted»
  refine wpAny_bind (m := checkCount "sorted" 1 1 _) (wpAny_pure (wpAny_bind (collect_tup hl (wpAny_bind (wpAny_newList ?_ hz)) hz)))
  have sz : ((s.heap.push (seqObj "list" #[] 0)).update s.heap.objs.size (Obj.mapSeq (· ++ vs.toArray))).objs.size = s.heap.objs.size + 1 := by rw [Heap.size_update, size_push']
  show wpAny _ _ _ _ _ { s with heap := copyHeap s.heap vs }
  rw [sz]
  refine wpAny_bind (wpAny_holding (wpAny_call_entry_kw slot_list_sort ⟨_, copyHeap_at s.heap vs, rfl⟩ entry_list_sort ?_ (args_list_sort _)))
  refine wpAny_mono (list_sort_vals (s := { s with heap := copyHeap s.heap vs }) (P := fun f s' => f = .done (.ret .none) ∧ Q (.ref (s.heap.objs.size + 1)) s') (copyHeap_at s.heap vs) S hz ⟨rfl, fin⟩) (fun f s' hf => ?_) fun _ _ x => x
  obtain ⟨rfl, h⟩ := hf
  exact ⟨_, rfl, wpAny_pure ⟨_, rfl, h⟩⟩
end
end DLS

set_option Elab.async false
set_option linter.all false
set_option maxRecDepth 100000
set_option maxHeartbeats 2000000
set_option autoImplicit false
namespace DL
open PySem PySem.Spec L2

/-! ### built-in functions and types -/
def biVal : Bi → Value
  | .len => .builtin "len" | .int => .type "int" | .abs => .builtin "abs" | .min1 => .builtin "min" | .max1 => .builtin "max" | .min2 => .builtin "min" | .max2 => .builtin "max"
  | .sorted => .builtin "sorted" | .tuple => .type "tuple" | .list => .type "list" | .any => .builtin "any" | .all => .builtin "all" | .repr => .builtin "repr" | .sum => .builtin "sum"
def rBi (K : PySem.W.Frag) (b : Bi) : List V → Hp → VK → Prop := fun xs H Q => ∃ F ds z, Same F H ∧ DVs K F H xs ds ∧ biD b ds = some z ∧ Give K F H z Q
section
variable {X : Cx}
theorem bools_rp {K : PySem.W.Frag} {F : Hp} : ∀ {ds : List PyData} {vs : List V} {bs : List Bool}, RpAll K F vs ds → bools ds = some bs → vs = bs.map V.bl
  | [], _, _, h, e => by cases h; cases e; rfl
  | d :: ds, _, _, h, e => by
    cases h with
    | cons h1 h2 =>
      match d, e, h1 with
      | .bool b, e, h1 =>
        simp only [bools] at e
        cases q : bools ds with
        | none => rw [q] at e; cases e
        | some bs =>
          rw [q] at e
          cases e
          cases h1
          rw [bools_rp h2 q]
          rfl
def IsD (K : PySem.W.Frag) (F : Hp) (u : Value) (d : PyData) : Prop := ∃ x, RelV x u ∧ Rp K F x d
theorem each_in {K : PySem.W.Frag} {F : Hp} : ∀ {vs : List V} {us : List Value} {ds : List PyData}, Vals vs us → RpAll K F vs ds → PySem.W.EachIs (IsD K F) us ds
  | _, _, _, .nil, .nil => .nil
  | _, _, _, .cons r rs, .cons h hs => .cons ⟨_, r, h⟩ (each_in rs hs)
theorem each_out {K : PySem.W.Frag} {F : Hp} : ∀ {us : List Value} {ds : List PyData}, PySem.W.EachIs (IsD K F) us ds → ∃ vs, Vals vs us ∧ RpAll K F vs ds
  | _, _, .nil => ⟨[], .nil, .nil⟩
  | _, _, .cons ⟨x, r, h⟩ t => by
    obtain ⟨vs, h1, h2⟩ := each_out t
    exact ⟨x :: vs, .cons r h1, .cons h h2⟩
theorem sortShape_ok {ds : List PyData} (h : sortShape ds = true) : PySem.W.Sortable ds := by
  unfold sortShape at h
  rw [Bool.or_eq_true] at h
  rcases h with h | h
  · left
    intro d hd
    have := List.all_eq_true.mp h d hd
    split at this
    · exact ⟨_, _, rfl⟩
    · cases this
  · right
    intro d hd
    have := List.all_eq_true.mp h d hd
    split at this
    · cases this
    · cases this
    · rename_i h1 h2
      exact ⟨fun e => h1 e, fun xs e => h2 xs e⟩
/-- what both sorts have in common -/
theorem srt_end {pins : List (Addr × Obj)} {s : Shared} {σ : St} {H F : Hp} {Q : VK} {ds : List PyData} {vs : List V} {its : List Value} {l : Addr} (hu : X.A.units + 65 < cLine) (I : Inv X pins σ H s) (sF : Same F H) (rv : Vals vs its) (hv : RpAll X.K F vs ds) (hs : sortOk ds = true)
    (g : Give X.K F H (.lst (ds.mergeSort (PySem.W.dataLe false id))) Q) (pl : s.heap.IsList l its.toArray ∨ s.heap.IsTuple l its.toArray) : wpAny (model X.prog X.w) X.A (call (.builtin "sorted") [.ref l]) (EP X pins σ Q) X.xe s := by
  unfold sortOk at hs
  simp only [Bool.and_eq_true, decide_eq_true_eq] at hs
  obtain ⟨⟨⟨hs0, hs1⟩, hs2⟩, hs3⟩ := hs
  have al : PySem.W.AllAlike (ds.map id) := by
    rw [List.map_id]
    intro d hd d' hd'
    exact List.all_eq_true.mp (List.all_eq_true.mp hs1 d hd) d' hd'
  have shp : PySem.W.Sortable (ds.map id) := by rw [List.map_id]; exact sortShape_ok hs0
  have rds := (each_in rv hv).mono fun u d ⟨x, h1, h2⟩ => Rp.reads I d x u (Rp.mono sF _ _ h2) h1
  have dep : ∀ d, d ∈ ds → X.A.units + 2 + (id d : PyData).depth < cLine := fun d hd => by
    have q := List.all_eq_true.mp hs2 d hd
    simp only [decide_eq_true_eq] at q
    show X.A.units + 2 + d.depth < cLine
    omega
  have fin : ∀ out : List Value, out.length = ds.length → PySem.W.EachIs (IsD X.K F) out (ds.mergeSort (PySem.W.dataLe false id)) → EP X pins σ Q (.ref (s.heap.objs.size + 1)) { s with heap := PyProof.Rows.sortedAll s.heap its out.toArray } := fun out hlo ho => by
    obtain ⟨vs', h3, h4⟩ := each_out ho
    obtain ⟨ep, hx⟩ := PyProof.Rows.sortedAll_at s.heap its out.toArray
    have hlen : vs'.length ≤ sizeLine := by rw [h3.length, hlo]; exact hs3
    exact ⟨.ref _, upd H (s.heap.objs.size + 1) (.lst vs'), I.laid (t' := s.toks) (fun _ _ => PyProof.Rows.sortedAll_old) (Nat.le_succ _) ⟨hlen, out, ep, h3, hx⟩, rfl, g.lst h4 _ (I.hok.fresh (Nat.le_succ _))⟩
  rcases pl with pl | pl
  · exact PySem.W.sorted_data (enc := id) (R := IsD X.K F) pl (each_in rv hv) rds al shp hs3 dep fin
  · exact DLS.sorted_tupD (enc := id) (R := IsD X.K F) pl (each_in rv hv) rds al shp hs3 dep fin
theorem bi_sorted (hu : X.A.units + 65 < cLine) : CallR X (.builtin "sorted") (rBi X.K .sorted) := by
  rintro pins s σ H xs us Q I r ⟨F, ds, z, sF, hx, hz, g⟩
  match ds, hx, hz with
  | [.list ds], hx, hz =>
    simp only [biD] at hz
    split at hz
    · rename_i hs
      cases hz
      cases hx with
      | cons h1 h2 =>
        cases h2
        obtain ⟨a, vs, rfl, ha, hv⟩ := h1.lst
        obtain ⟨u, rfl, q⟩ := vals1 r
        cases q
        obtain ⟨its, rv, pl, _⟩ := I.list (SqL.of ha)
        exact srt_end hu I sF rv hv hs g (.inl pl.isList)
    · cases hz
  | [.tuple ds], hx, hz =>
    simp only [biD] at hz
    split at hz
    · rename_i hs
      cases hz
      cases hx with
      | cons h1 h2 =>
        cases h2
        obtain ⟨a, vs, rfl, ha, hv⟩ := h1.tup sF
        obtain ⟨u, rfl, q⟩ := vals1 r
        cases q
        obtain ⟨its, rv, pl, _⟩ := I.tuple ha
        exact srt_end hu I sF rv hv hs g (.inr pl)
    · cases hz
theorem bi_repr (hg : X.A.guards = some []) (hu : X.A.units + 65 < cLine) : CallR X (.builtin "repr") (rBi X.K .repr) := by
  rintro pins s σ H xs us Q I r ⟨F, ds, z, sF, hx, hz, g⟩
  match ds, hx, hz with
  | [d], hx, hz =>
    simp only [biD] at hz
    split at hz
    · rename_i hs
      cases hz
      cases hx with
      | cons h1 h2 =>
        cases h2
        obtain ⟨u, rfl, ru⟩ := vals1 r
        unfold reprOk at hs
        simp only [Bool.and_eq_true, decide_eq_true_eq, Bool.not_eq_true'] at hs
        obtain ⟨⟨⟨hs0, hs1⟩, hs2⟩, hs3⟩ := hs
        have q := g.str
        have ref : ∀ p, u = .ref p → wpAny (model X.prog X.w) X.A (call (.builtin "repr") [u]) (EP X pins σ Q) X.xe s := by
          intro p e
          subst e
          obtain ⟨as, rd⟩ := Rp.reads I d _ _ (h1.rp sF) ru
          refine repr_of_reads' rd hs0 (PyData.noDict_hsm hs1) hg (by omega) (fun _ _ h => h) (fun h' u tk hk => ⟨.str d.shown, H, I.kept hk, ⟨_, rfl⟩, q⟩) hs3
        match d, h1, ru, q, hs0, hs3, ref with
        | .none, h1, ru, q, hs0, hs3, ref =>
          obtain rfl := h1.non
          cases ru
          exact PySem.P.repr_of_none ⟨.str _, H, I.tok _, ⟨_, rfl⟩, q⟩
        | .bool b, h1, ru, q, hs0, hs3, ref =>
          obtain rfl := h1.bl
          cases ru
          refine PySem.P.repr_of_bool ⟨.str _, H, I.tok _, ⟨_, rfl⟩, ?_⟩
          simp only [PyData.shown] at q
          exact q
        | .int i, h1, ru, q, hs0, hs3, ref =>
          obtain rfl := h1.int
          obtain ⟨t, rfl⟩ := ru
          simp only [PyData.showable, decide_eq_true_eq] at hs0
          refine PySem.P.repr_of_int hs0 ⟨.str _, H, I.tok _, ⟨_, rfl⟩, ?_⟩
          simp only [PyData.shown] at q
          exact q
        | .str x, h1, ru, q, hs0, hs3, ref =>
          obtain rfl := h1.str
          obtain ⟨t, rfl⟩ := ru
          simp only [PyData.shown] at q hs3
          exact PySem.P.repr_of_str ⟨.str _, H, I.tok _, ⟨_, rfl⟩, q⟩ hs3
        | .list ds, h1, ru, q, hs0, hs3, ref =>
          obtain ⟨a, vs, rfl, _, _⟩ := h1.lst
          cases ru
          exact ref _ rfl
        | .tuple ds, h1, ru, q, hs0, hs3, ref =>
          obtain ⟨a, vs, rfl, _, _⟩ := h1.tup sF
          cases ru
          exact ref _ rfl
        | .dict ds, h1, ru, q, hs0, hs3, ref => cases (show Rp X.K F _ (.dict ds) from h1)
    · cases hz
theorem DVs.one {K : PySem.W.Frag} {F H : Hp} {xs : List V} {d : PyData} (h : DVs K F H xs [d]) : ∃ x, xs = [x] ∧ DV K F H x d := by
  cases h with
  | cons a b => cases b; exact ⟨_, rfl, a⟩
theorem DVs.two {K : PySem.W.Frag} {F H : Hp} {xs : List V} {d e : PyData} (h : DVs K F H xs [d, e]) : ∃ x y, xs = [x, y] ∧ DV K F H x d ∧ DV K F H y e := by
  cases h with
  | cons a b =>
    obtain ⟨y, rfl, q⟩ := b.one
    exact ⟨_, _, rfl, a, q⟩
theorem bi_len : CallR X (.builtin "len") (rBi X.K .len) := by
  rintro pins s σ H xs us Q I r ⟨F, ds, z, sF, hx, hz, g⟩
  match ds, hx, hz with
  | [.list ds], hx, hz =>
    cases hz
    obtain ⟨x, rfl, h⟩ := hx.one
    obtain ⟨a, vs, rfl, h1, h2⟩ := h.lst
    exact call_len_seq pins s σ H _ us Q I r ⟨a, vs, rfl, .inl (SqL.of h1), by rw [h2.length]; exact g.int⟩
  | [.tuple ds], hx, hz =>
    cases hz
    obtain ⟨x, rfl, h⟩ := hx.one
    obtain ⟨a, vs, rfl, h1, h2⟩ := h.tup sF
    exact call_len_seq pins s σ H _ us Q I r ⟨a, vs, rfl, .inr h1, by rw [h2.length]; exact g.int⟩
theorem bi_int : CallR X (.type "int") (rBi X.K .int) := by
  rintro pins s σ H xs us Q I r ⟨F, ds, z, sF, hx, hz, g⟩
  match ds, hx, hz with
  | [.int i], hx, hz =>
    cases hz
    obtain ⟨x, rfl, h⟩ := hx.one
    exact call_int1 pins s σ H _ us Q I r (.inl ⟨i, by rw [h.int], g.int⟩)
  | [.bool b], hx, hz =>
    cases hz
    obtain ⟨x, rfl, h⟩ := hx.one
    exact call_int1 pins s σ H _ us Q I r (.inr ⟨b, by rw [h.bl], g.int⟩)
theorem bi_abs : CallR X (.builtin "abs") (rBi X.K .abs) := by
  rintro pins s σ H xs us Q I r ⟨F, ds, z, sF, hx, hz, g⟩
  match ds, hx, hz with
  | [.int i], hx, hz =>
    cases hz
    obtain ⟨x, rfl, h⟩ := hx.one
    exact call_abs pins s σ H _ us Q I r ⟨i, by rw [h.int], g.int⟩
theorem bi_min2 (hc : X.calm = true) : CallR X (.builtin "min") (rBi X.K .min2) := by
  rintro pins s σ H xs us Q I r ⟨F, ds, z, sF, hx, hz, g⟩
  match ds, hx, hz with
  | [.int i, .int j], hx, hz =>
    cases hz
    obtain ⟨x, y, rfl, h, h'⟩ := hx.two
    exact call_min2 hc pins s σ H _ us Q I r ⟨i, j, by rw [h.int, h'.int], g.int⟩
theorem bi_max2 (hc : X.calm = true) : CallR X (.builtin "max") (rBi X.K .max2) := by
  rintro pins s σ H xs us Q I r ⟨F, ds, z, sF, hx, hz, g⟩
  match ds, hx, hz with
  | [.int i, .int j], hx, hz =>
    cases hz
    obtain ⟨x, y, rfl, h, h'⟩ := hx.two
    exact call_max2 hc pins s σ H _ us Q I r ⟨i, j, by rw [h.int, h'.int], g.int⟩
theorem bi_tuple : CallR X (.type "tuple") (rBi X.K .tuple) := by
  rintro pins s σ H xs us Q I r ⟨F, ds, z, sF, hx, hz, g⟩
  match ds, hx, hz with
  | [.list ds], hx, hz =>
    cases hz
    obtain ⟨x, rfl, h⟩ := hx.one
    obtain ⟨a, vs, rfl, h1, h2⟩ := h.lst
    exact call_tuple_of pins s σ H _ us Q I r ⟨a, vs, rfl, .inl ⟨SqL.of h1, g.tup h2⟩⟩
  | [.tuple ds], hx, hz =>
    cases hz
    obtain ⟨x, rfl, h⟩ := hx.one
    obtain ⟨a, vs, rfl, h1, h2⟩ := h.tup sF
    exact call_tuple_of pins s σ H _ us Q I r ⟨a, vs, rfl, .inr ⟨h1, g.old h⟩⟩
theorem bi_list : CallR X (.type "list") (rBi X.K .list) := by
  rintro pins s σ H xs us Q I r ⟨F, ds, z, sF, hx, hz, g⟩
  match ds, hx, hz with
  | [.list ds], hx, hz =>
    cases hz
    obtain ⟨x, rfl, h⟩ := hx.one
    obtain ⟨a, vs, rfl, h1, h2⟩ := h.lst
    exact call_list_of pins s σ H _ us Q I r ⟨a, vs, rfl, .inl (SqL.of h1), g.lst h2⟩
  | [.tuple ds], hx, hz =>
    cases hz
    obtain ⟨x, rfl, h⟩ := hx.one
    obtain ⟨a, vs, rfl, h1, h2⟩ := h.tup sF
    exact call_list_of pins s σ H _ us Q I r ⟨a, vs, rfl, .inr h1, g.lst h2⟩
theorem bi_any (hc : X.calm = true) : CallR X (.builtin "any") (rBi X.K .any) := by
  rintro pins s σ H xs us Q I r ⟨F, ds, z, sF, hx, hz, g⟩
  match ds, hx, hz with
  | [.list ds], hx, hz =>
    simp only [biD] at hz
    cases q : bools ds with
    | none => rw [q] at hz; cases hz
    | some bs =>
      rw [q] at hz
      cases hz
      obtain ⟨x, rfl, h⟩ := hx.one
      obtain ⟨a, vs, rfl, h1, h2⟩ := h.lst
      obtain rfl := bools_rp h2 q
      exact cr_any hc pins s σ H _ us Q I r ⟨a, bs, rfl, SqL.of h1, g.bl⟩
theorem bi_all (hc : X.calm = true) : CallR X (.builtin "all") (rBi X.K .all) := by
  rintro pins s σ H xs us Q I r ⟨F, ds, z, sF, hx, hz, g⟩
  match ds, hx, hz with
  | [.list ds], hx, hz =>
    simp only [biD] at hz
    cases q : bools ds with
    | none => rw [q] at hz; cases hz
    | some bs =>
      rw [q] at hz
      cases hz
      obtain ⟨x, rfl, h⟩ := hx.one
      obtain ⟨a, vs, rfl, h1, h2⟩ := h.lst
      obtain rfl := bools_rp h2 q
      exact cr_all hc pins s σ H _ us Q I r ⟨a, bs, rfl, SqL.of h1, g.bl⟩
theorem bi_call (hc : X.calm = true) (hg : X.A.guards = some []) (hu : X.A.units + 65 < cLine) (b : Bi) : CallR X (biVal b) (rBi X.K b) := by
  cases b
  · exact bi_len
  · exact bi_int
  · exact bi_abs
  · rintro pins s σ H xs us Q I r ⟨F, ds, z, sF, hx, hz, g⟩; cases hz
  · rintro pins s σ H xs us Q I r ⟨F, ds, z, sF, hx, hz, g⟩; cases hz
  · exact bi_min2 hc
  · exact bi_max2 hc
  · exact bi_sorted hu
  · exact bi_tuple
  · exact bi_list
  · exact bi_any hc
  · exact bi_all hc
  · exact bi_repr hg hu
  · rintro pins s σ H xs us Q I r ⟨F, ds, z, sF, hx, hz, g⟩; cases hz
theorem bi_boot (b : Bi) : bootBuiltins (biName b) = some (biVal b) := by cases b <;> decide +kernel
theorem bi_kind (b : Bi) : (∃ id, biVal b = .builtin id) ∨ ∃ T, biVal b = .type T := by cases b <;> first | exact .inl ⟨_, rfl⟩ | exact .inr ⟨_, rfl⟩
theorem bi_name (b : Bi) : biName b ≠ "__name__" ∧ (biName b == ("__debug__" : Str)) = false := by cases b <;> exact ⟨by decide, by decide⟩

/-! ### isinstance -/
def tyVal (t : Ty) : Value := .type (match t with | .int => "int" | .bool => "bool" | .str => "str" | .tuple => "tuple" | .list => "list" | .dict => "dict")
def tyOf : PyData → String
  | .none => "NoneType" | .bool _ => "bool" | .int _ => "int" | .str _ => "str" | .list _ => "list" | .tuple _ => "tuple" | .dict _ => "dict"
theorem kit_ty (K : PySem.W.Frag) (d : PyData) (t : Ty) : PySem.W.kitOne K (.type (tyOf d)) (tyVal t) = some (isiD t d) := by
  cases d <;> cases t <;> rfl
theorem ty_of {K : PySem.W.Frag} {F H : Hp} {x : V} {d : PyData} (sF : Same F H) (h : DV K F H x d) : TyX K H x (.type (tyOf d)) := by
  match d, h with
  | .none, h => rw [h.non]; exact .base .non
  | .bool b, h => rw [h.bl]; exact .base (.bl b)
  | .int b, h => rw [h.int]; exact .base (.int b)
  | .str b, h => rw [h.str]; exact .base (.str b)
  | .list ds, h =>
    obtain ⟨a, vs, rfl, h1, h2⟩ := h.lst
    exact .base (.lst h1)
  | .tuple ds, h =>
    obtain ⟨a, vs, rfl, h1, h2⟩ := h.tup sF
    rcases h1 with (h1 | ⟨o, h1⟩) | ⟨o, its, n, h1, h2, _⟩
    · exact .base (.tup h1)
    · exact .fTuple h1
    · exact .kTuple h1 h2
  | .dict ds, h => cases (show Rp K F x (.dict ds) from h)
def rIsD (K : PySem.W.Frag) (t : Ty) : List V → Hp → VK → Prop := fun xs H Q => ∃ F x d c, xs = [x, c] ∧ RelV c (tyVal t) ∧ Same F H ∧ DV K F H x d ∧ Q (.bl (isiD t d)) H
def tyV' (t : Ty) : V := .ty (match t with | .int => "int" | .bool => "bool" | .str => "str" | .tuple => "tuple" | .list => "list" | .dict => "dict")
theorem isi_call (t : Ty) : CallR X (.builtin "isinstance") (fun xs H Q => ∃ F x d, xs = [x, tyV' t] ∧ Same F H ∧ DV X.K F H x d ∧ Q (.bl (isiD t d)) H) := by
  rintro pins s σ H xs us Q I r ⟨F, x, d, rfl, sF, hx, q⟩
  exact call_isi pins s σ H _ us Q I r ⟨x, _, _, tyVal t, _, rfl, .ty _, ty_of sF hx, kit_ty X.K d t, q⟩
theorem ty_boot (t : Ty) : bootBuiltins (tyName t) = some (tyVal t) := by cases t <;> decide +kernel
theorem ty_name (t : Ty) : tyName t ≠ "__name__" ∧ (tyName t == ("__debug__" : Str)) = false := by cases t <;> exact ⟨by decide, by decide⟩
end
end DL

set_option Elab.async false
set_option linter.all false
set_option maxRecDepth 100000
set_option maxHeartbeats 2000000
set_option autoImplicit false
namespace DL
open PySem PySem.Spec L2

/-! ### readings -/
section
variable {X : Cx} {e : Expr} {es : List Expr} {t t' : TE} {a a' : TA} {u u' : TT}
theorem PE.sub (h : PE X e t) (m : ∀ σ H Q, t' σ H Q → t σ H Q) : PE X e t' := ⟨fun pins s σ H Q I q => h.run pins s σ H Q I (m σ H Q q)⟩
theorem PA.sub (h : PA X es a) (m : ∀ σ H Q, a' σ H Q → a σ H Q) : PA X es a' := ⟨fun pos pins s σ H Q I q => h.run pos pins s σ H Q I (m σ H Q q)⟩
theorem PT.sub (h : PT X e u) (m : ∀ σ H Q, u' σ H Q → u σ H Q) : PT X e u' := ⟨fun pins s σ H Q I q => h.run pins s σ H Q I (m σ H Q q)⟩
theorem PW.sub (h : PW X e u) (m : ∀ σ H Q, u' σ H Q → u σ H Q) : PW X e u' := ⟨fun wh pins s σ H Q I q => h.run wh pins s σ H Q I (m σ H Q q)⟩
theorem PTs.sub (h : PTs X es u) (m : ∀ σ H Q, u' σ H Q → u σ H Q) : PTs X es u' := ⟨fun pins s σ H Q I q => h.run pins s σ H Q I (m σ H Q q)⟩
theorem PI.sub {tg it : Expr} {w w' : TI} (h : PI X tg it w) (m : ∀ σ H R, w' σ H R → w σ H R) : PI X tg it w' := ⟨fun pins s σ H Q I q => h.run pins s σ H Q I (m σ H Q q)⟩
theorem PO.sub {o : Option Expr} {w w' : TO} (h : PO X o w) (m : ∀ σ H R, w' σ H R → w σ H R) : PO X o w' := ⟨fun pins s σ H Q I q => h.run pins s σ H Q I (m σ H Q q)⟩
end

abbrev XRT := Hp → Hp → Xn → Value → Option Addr → Prop
abbrev RY (K : PySem.W.Frag) (σ : St) : Hp → Hp → Ow → Hp → V → EV → Prop := fun H0 F ow H v e => RV K H0 F ow σ H v e
abbrev RYs (K : PySem.W.Frag) (σ : St) : Hp → Hp → Ow → Hp → List V → List EV → Prop := fun H0 F ow H v e => RVs K H0 F ow σ H v e
abbrev RYe {α : Type} : Hp → Hp → Ow → Hp → α → α → Prop := fun _ _ _ _ b a => b = a
def Sem (K : PySem.W.Frag) (XR : XRT) (f : Mo EV) (W : WX) : TE := fun σ H Q => ∃ F ow env w, Rel K F ow σ H env w ∧ OutG K (RY K σ) XR F ow σ H (f env w) Q W
def SemA (K : PySem.W.Frag) (XR : XRT) (f : Mo (List EV)) (W : WX) : TA := fun σ H Q => ∃ F ow env w, Rel K F ow σ H env w ∧ OutG K (RYs K σ) XR F ow σ H (f env w) Q W
def SemT (K : PySem.W.Frag) (XR : XRT) (f : Mo Bool) (W : WX) : TT := fun σ H Q => ∃ F ow env w, Rel K F ow σ H env w ∧ OutG K RYe XR F ow σ H (f env w) Q W
def SemO (K : PySem.W.Frag) (XR : XRT) (f : Mo (Option Int)) (W : WX) : TO := fun σ H Q => ∃ F ow env w, Rel K F ow σ H env w ∧ OutG K RYe XR F ow σ H (f env w) Q W

/-- an iteration that tells these items, while Lv -/
structure Yld (K : PySem.W.Frag) (J : It) (Lv : Hp → Hp → Prop) (ds : List PyData) : Prop where
  go : ∀ (i : Nat) F H d, Lv F H → ds[i]? = some d → J.go i H
  yld : ∀ (i : Nat) F H d x H', Lv F H → ds[i]? = some d → J.yld i H x H' → ∃ F', Mk K F H (.fz d) x F' H'
  stop : ∀ (i : Nat) F H, Lv F H → ds.length ≤ i → J.stop i H
def LvOk (K : PySem.W.Frag) (σ : St) (F : Hp) (k : Ik) (Lv : Hp → Hp → Prop) : Prop := match k.at_ with
  | none => ∀ F' H', Same F F' → Same F' H' → Lv F' H'
  | some i => (∀ F' ow' σ' H' env' w', Rel K F' ow' σ' H' env' w' → (∀ x, σ'[i]? = some (some x) → σ[i]? = some (some x)) → env'[i]? = some (some (.lst k.raw)) → Lv F' H') ∧
    ∀ F' ow' σ' H' env' w', Rel K F' ow' σ' H' env' w' → (∀ x, σ'[i]? = some (some x) → σ[i]? = some (some x)) → env'[i]? = some (some (.fz (.list k.raw))) → ∀ F2 H2, Same F' F2 → Same F2 H2 → Lv F2 H2
abbrev YI (K : PySem.W.Frag) (σ : St) : Hp → Hp → Ow → Hp → It → Ik → Prop := fun _ F _ _ J k => ∃ Lv, Yld K J Lv k.items ∧ LvOk K σ F k Lv
def SemI (K : PySem.W.Frag) (XR : XRT) (f : Mo Ik) (W : WX) : TI := fun σ H Q => ∃ F ow env w, Rel K F ow σ H env w ∧ OutG K (YI K σ) XR F ow σ H (f env w) Q W

section
variable {K : PySem.W.Frag} {XR : XRT} {F F' F0 F1 F2 : Hp} {ow ow' ow0 ow1 ow2 : Ow} {H H0 H1 H2 : Hp} {σ : St} {env env' env1 env2 : Nv} {w w1 w2 : Wd} {W : WX}
theorem Rel.semE {γ δ : Type} {Z : Hp → Hp → Ow → Hp → δ → γ → Prop} {f : Mo EV} {k : EV → Nv → Wd → Res γ} {Q : δ → Hp → Prop} {Q' : VK} (R : Rel K F1 ow1 σ H1 env1 w1) (s : Stp F ow H F1 ow1 H1) (h : OutG K Z XR F ow σ H ((f env1 w1).bind k) Q W)
    (m : ∀ v H2 F2 ow2 a env2 w2, Stp F ow H F2 ow2 H2 → Stp F1 ow1 H1 F2 ow2 H2 → Rel K F2 ow2 σ H2 env2 w2 → RV K H1 F2 ow2 σ H2 v a → OutG K Z XR F ow σ H (k a env2 w2) Q W → Q' v H2) : Sem K XR f W σ H1 Q' :=
  ⟨F1, ow1, env1, w1, R, (OutG.bindAt s h).mono fun b H2 ⟨F2, ow2, a, env2, w2, s1, s2, R2, y, _, q⟩ => m b H2 F2 ow2 a env2 w2 s1 s2 R2 y q⟩
theorem Rel.semA {γ δ : Type} {Z : Hp → Hp → Ow → Hp → δ → γ → Prop} {f : Mo (List EV)} {k : List EV → Nv → Wd → Res γ} {Q : δ → Hp → Prop} {Q' : List V → Hp → Prop} (R : Rel K F1 ow1 σ H1 env1 w1) (s : Stp F ow H F1 ow1 H1) (h : OutG K Z XR F ow σ H ((f env1 w1).bind k) Q W)
    (m : ∀ v H2 F2 ow2 a env2 w2, Stp F ow H F2 ow2 H2 → Stp F1 ow1 H1 F2 ow2 H2 → Rel K F2 ow2 σ H2 env2 w2 → RVs K H1 F2 ow2 σ H2 v a → OutG K Z XR F ow σ H (k a env2 w2) Q W → Q' v H2) : SemA K XR f W σ H1 Q' :=
  ⟨F1, ow1, env1, w1, R, (OutG.bindAt s h).mono fun b H2 ⟨F2, ow2, a, env2, w2, s1, s2, R2, y, _, q⟩ => m b H2 F2 ow2 a env2 w2 s1 s2 R2 y q⟩
theorem Rel.semT {γ δ : Type} {Z : Hp → Hp → Ow → Hp → δ → γ → Prop} {f : Mo Bool} {k : Bool → Nv → Wd → Res γ} {Q : δ → Hp → Prop} {Q' : Bool → Hp → Prop} (R : Rel K F1 ow1 σ H1 env1 w1) (s : Stp F ow H F1 ow1 H1) (h : OutG K Z XR F ow σ H ((f env1 w1).bind k) Q W)
    (m : ∀ v H2 F2 ow2 env2 w2, Stp F ow H F2 ow2 H2 → Stp F1 ow1 H1 F2 ow2 H2 → Rel K F2 ow2 σ H2 env2 w2 → OutG K Z XR F ow σ H (k v env2 w2) Q W → Q' v H2) : SemT K XR f W σ H1 Q' :=
  ⟨F1, ow1, env1, w1, R, (OutG.bindAt (Y := RYe) s h).mono fun b H2 ⟨F2, ow2, a, env2, w2, s1, s2, R2, y, _, q⟩ => m b H2 F2 ow2 env2 w2 s1 s2 R2 (by cases y; exact q)⟩
theorem Rel.semO {γ δ : Type} {Z : Hp → Hp → Ow → Hp → δ → γ → Prop} {f : Mo (Option Int)} {k : Option Int → Nv → Wd → Res γ} {Q : δ → Hp → Prop} {Q' : Option Int → Hp → Prop} (R : Rel K F1 ow1 σ H1 env1 w1) (s : Stp F ow H F1 ow1 H1) (h : OutG K Z XR F ow σ H ((f env1 w1).bind k) Q W)
    (m : ∀ v H2 F2 ow2 env2 w2, Stp F ow H F2 ow2 H2 → Stp F1 ow1 H1 F2 ow2 H2 → Rel K F2 ow2 σ H2 env2 w2 → OutG K Z XR F ow σ H (k v env2 w2) Q W → Q' v H2) : SemO K XR f W σ H1 Q' :=
  ⟨F1, ow1, env1, w1, R, (OutG.bindAt (Y := RYe) s h).mono fun b H2 ⟨F2, ow2, a, env2, w2, s1, s2, R2, y, _, q⟩ => m b H2 F2 ow2 env2 w2 s1 s2 R2 (by cases y; exact q)⟩
theorem Rel.semI {γ δ : Type} {Z : Hp → Hp → Ow → Hp → δ → γ → Prop} {f : Mo Ik} {k : Ik → Nv → Wd → Res γ} {Q : δ → Hp → Prop} {Q' : It → Hp → Prop} (R : Rel K F1 ow1 σ H1 env1 w1) (s : Stp F ow H F1 ow1 H1) (h : OutG K Z XR F ow σ H ((f env1 w1).bind k) Q W)
    (m : ∀ v H2 F2 ow2 a env2 w2, Stp F ow H F2 ow2 H2 → Stp F1 ow1 H1 F2 ow2 H2 → Rel K F2 ow2 σ H2 env2 w2 → YI K σ H1 F2 ow2 H2 v a → OutG K Z XR F ow σ H (k a env2 w2) Q W → Q' v H2) : SemI K XR f W σ H1 Q' :=
  ⟨F1, ow1, env1, w1, R, (OutG.bindAt s h).mono fun b H2 ⟨F2, ow2, a, env2, w2, s1, s2, R2, y, _, q⟩ => m b H2 F2 ow2 a env2 w2 s1 s2 R2 y q⟩
theorem give_of {z : EV} {Q : VK} (s : Stp F ow H F2 ow2 H2) (R : Rel K F2 ow2 σ H2 env2 w2) (h : OutG K (RY K σ) XR F ow σ H (.ok z env2 w2) Q W) : Give K F2 H2 z Q := fun v F' H' m => by
  obtain ⟨s1, R1, r⟩ := m.ok R
  exact h F' ow2 H' v (s.trans s1) R1 (RV.base s r)
/-- the last call: a part of the evaluation whose result is the whole's -/
theorem Rel.semL {f : Mo EV} {Q : VK} (R : Rel K F1 ow1 σ H1 env1 w1) (s : Stp F ow H F1 ow1 H1) (h : OutG K (RY K σ) XR F ow σ H (f env1 w1) Q W) : Sem K XR f W σ H1 Q :=
  ⟨F1, ow1, env1, w1, R, OutG.step (fun F2 ow2 H2 b a y => RV.base s y) s h⟩
theorem Rel.semLT {f : Mo Bool} {Q : Bool → Hp → Prop} (R : Rel K F1 ow1 σ H1 env1 w1) (s : Stp F ow H F1 ow1 H1) (h : OutG K RYe XR F ow σ H (f env1 w1) Q W) : SemT K XR f W σ H1 Q :=
  ⟨F1, ow1, env1, w1, R, OutG.step (Y := RYe) (F := F) (ow := ow) (H := H) (F1 := F1) (ow1 := ow1) (H1 := H1) (fun F2 ow2 H2 b a y => y) s h⟩
theorem Rel.semLA {f : Mo (List EV)} {Q : List V → Hp → Prop} (R : Rel K F1 ow1 σ H1 env1 w1) (s : Stp F ow H F1 ow1 H1) (h : OutG K (RYs K σ) XR F ow σ H (f env1 w1) Q W) : SemA K XR f W σ H1 Q :=
  ⟨F1, ow1, env1, w1, R, OutG.step (fun F2 ow2 H2 b a y => RVs.base s y) s h⟩
theorem pick1_ok {o : Option EV} {Q : VK} (h : OutG K (RY K σ) XR F ow σ H (pick1 o env2 w2) Q W) : ∃ z, o = some z ∧ OutG K (RY K σ) XR F ow σ H (.ok z env2 w2) Q W := by
  cases o with
  | none => exact h.elim
  | some z => exact ⟨z, rfl, h⟩
end
end DL

set_option Elab.async false
set_option linter.all false
set_option maxRecDepth 100000
set_option maxHeartbeats 2000000
set_option autoImplicit false
namespace DL
open PySem PySem.Spec L2

/-! ### a def's promise over data -/
def OutC (K : PySem.W.Frag) (XR : XRT) (F : Hp) (ow : Ow) (H : Hp) (r : CRes) (Q : VK) (E : XK) : Prop := match r with
  | .stuck => False
  | .ok e w => ∀ F' ow' H' v, Stp F ow H F' ow' H' → Rel K F' ow' [] H' [] w → RV K H F' ow' [] H' v e → Q v H'
  | .exc x w => ∀ F' ow' H' cls d, Stp F ow H F' ow' H' → Rel K F' ow' [] H' [] w → XR F' H' x cls d → E cls d H'
def SpD (K : PySem.W.Frag) (XR : XRT) (n : Nat) (g : List EV → Wd → CRes) : Sp := fun vs H Q E => vs.length = n ∧ ∃ F ow as w, Rel K F ow [] H [] w ∧ (∀ a t, ow a = some t → TT0 ≤ t) ∧ ARs K F ow vs as ∧ OutC K XR F ow H (g as w) Q E

section
variable {K : PySem.W.Frag} {XR : XRT} {F F' F0 F1 F2 : Hp} {ow ow' ow0 ow1 ow2 : Ow} {H H' H0 H1 H2 : Hp} {σ : St} {env env' env1 env2 : Nv} {w w' w1 w2 : Wd}
/-- what of the owners a callee sees -/
def restr (ow : Ow) : Ow := fun a => match ow a with
  | some t => if TT0 ≤ t then some t else none
  | none => none
theorem restr_some {a : Addr} {t : Nat} : restr ow a = some t ↔ (ow a = some t ∧ TT0 ≤ t) := by
  unfold restr
  cases h : ow a with
  | none => simp
  | some u =>
    simp only
    split
    · rename_i q
      simp only [Option.some.injEq]
      exact ⟨fun e => ⟨e, e ▸ q⟩, fun e => e.1⟩
    · rename_i q
      constructor
      · intro e; cases e
      · rintro ⟨e, k⟩
        cases e
        exact absurd k q
theorem restr_ne {a : Addr} (h : restr ow a ≠ none) : ow a ≠ none := by
  intro e
  unfold restr at h
  rw [e] at h
  exact h rfl
theorem restr_none {a : Addr} (h : ow a = none) : restr ow a = none := by
  unfold restr
  rw [h]
theorem Rel.callee (R : Rel K F ow σ H env w) : Rel K F (restr ow) [] H [] w :=
  ⟨R.sub, fun a h => R.dis a (restr_ne h), fun a h => R.trk a (restr_ne h), rfl, Nat.zero_le _, fun i e h => by simp at h, R.wld.own fun a t ht => by rw [restr_some]; exact ⟨fun h => h.1, fun h => ⟨h, ht⟩⟩⟩
theorem ARs.callee : ∀ {vs : List V} {es : List EV}, ARs K F ow vs es → ARs K F (restr ow) vs es
  | _, _, .nil => .nil
  | _, _, .cons (e := e) a b => .cons (by
      cases e with
      | fz d => exact a
      | src => obtain ⟨p, h1, h2⟩ := a; exact ⟨p, h1, restr_some.mpr ⟨h2, by decide⟩⟩
      | bor i => exact a
      | lst ds => exact a) (ARs.callee b)
def mergeOw (ow ow' : Ow) : Ow := fun a => match ow a with
  | some t => if TT0 ≤ t then ow' a else some t
  | none => ow' a
theorem merge_low {a : Addr} {t : Nat} (h : ow a = some t) (k : ¬ TT0 ≤ t) : mergeOw ow ow' a = some t := by
  unfold mergeOw
  rw [h]
  simp only
  rw [if_neg k]
theorem merge_hi {a : Addr} (h : ∀ t, ow a = some t → TT0 ≤ t) : mergeOw ow ow' a = ow' a := by
  unfold mergeOw
  cases q : ow a with
  | none => rfl
  | some t =>
    simp only
    rw [if_pos (h t q)]
theorem merge_cases (a : Addr) : (∃ t, ow a = some t ∧ ¬ TT0 ≤ t ∧ mergeOw ow ow' a = some t) ∨ (restr ow a = ow a ∧ mergeOw ow ow' a = ow' a) := by
  cases q : ow a with
  | none => exact .inr ⟨restr_none q, merge_hi fun t h => by rw [q] at h; cases h⟩
  | some t =>
    by_cases k : TT0 ≤ t
    · exact .inr ⟨restr_some.mpr ⟨q, k⟩, merge_hi fun t' h => by rw [q] at h; cases h; exact k⟩
    · exact .inl ⟨t, rfl, k, merge_low q k⟩
/-- behind a call: the caller's slots as they stood -/
theorem Rel.back (R : Rel K F ow σ H env w) (s : Stp F (restr ow) H F' ow' H') (R' : Rel K F' ow' [] H' [] w') : Stp F ow H F' (mergeOw ow ow') H' ∧ Rel K F' (mergeOw ow ow') σ H' env w' := by
  have low : ∀ a t, ow a = some t → ¬ TT0 ≤ t → restr ow a = none := by
    intro a t h k
    unfold restr
    rw [h]
    simp only
    rw [if_neg k]
  have low' : ∀ a t, ow a = some t → ¬ TT0 ≤ t → ow' a = none := by
    intro a t h k
    cases q : ow' a with
    | none => rfl
    | some u =>
      rcases s.nO a (by rw [q]; simp) with z | z
      · exact absurd (low a t h k) z
      · exact absurd z (R.trk a (by rw [h]; simp))
  refine ⟨⟨s.fz, fun a o h1 h2 => s.fr a o (restr_none h1) h2, fun a h => ?_, fun a h => ?_, fun a t h k => ?_, s.tr⟩, R'.sub, fun a h => ?_, fun a h => ?_, R.len, R.lt, fun i e h => ?_, R'.wld.own fun a t ht => ?_⟩
  · rcases s.nF a h with z | z | z
    · exact .inl z
    · exact .inr (.inl (restr_ne z))
    · exact .inr (.inr z)
  · rcases merge_cases (ow := ow) (ow' := ow') a with ⟨t, h1, _, _⟩ | ⟨h1, h2⟩
    · exact .inl (by rw [h1]; simp)
    · rw [h2] at h
      rcases s.nO a h with z | z
      · exact .inl (restr_ne z)
      · exact .inr z
  · rw [merge_hi fun t' h' => by rw [h] at h'; cases h'; exact k]
    exact s.tg a t (restr_some.mpr ⟨h, k⟩) k
  · rcases merge_cases (ow := ow) (ow' := ow') a with ⟨t, h1, h2, _⟩ | ⟨h1, h2⟩
    · cases q : F' a with
      | none => rfl
      | some o =>
        rcases s.nF a (by rw [q]; simp) with z | z | z
        · exact absurd (R.dis a (by rw [h1]; simp)) z
        · exact absurd (low a t h1 h2) z
        · exact absurd z (R.trk a (by rw [h1]; simp))
    · rw [h2] at h; exact R'.dis a h
  · rcases merge_cases (ow := ow) (ow' := ow') a with ⟨t, h1, h2, _⟩ | ⟨h1, h2⟩
    · exact s.tr a (R.trk a (by rw [h1]; simp))
    · rw [h2] at h; exact R'.trk a h
  · obtain ⟨v, e1, e2⟩ := R.slot i e h
    have hi := R.slt h
    refine ⟨v, e1, e2.mono s.fz (fun a t h1 h2 => ?_) fun a u h1 h2 => s.fr a u (low a i h1 (by omega)) h2⟩
    rcases h2 with h2 | h2
    · subst h2; exact merge_low h1 (by omega)
    · subst h2
      rw [merge_hi fun t' h' => by rw [h1] at h'; cases h'; decide]
      exact s.tg a TS (restr_some.mpr ⟨h1, by decide⟩) (by decide)
  · rcases merge_cases (ow := ow) (ow' := ow') a with ⟨t', h1, h2, h3⟩ | ⟨h1, h2⟩
    · rw [h3, low' a t' h1 h2]
      constructor
      · intro e; cases e; exact absurd ht h2
      · intro e; cases e
    · rw [h2]
theorem RV.back {v : V} {e : EV} (R : Rel K F ow σ H env w) (s : Stp F (restr ow) H F' ow' H') (h : RV K H F' ow' [] H' v e) : RV K H F' (mergeOw ow ow') σ H' v e := by
  cases e with
  | fz d => exact h
  | bor i => exact absurd (show ([] : St)[i]? = some (some v) from h) (by simp)
  | lst ds =>
    obtain ⟨p, vs, e, h0, h1, h2, h3, h4⟩ := h
    refine ⟨p, vs, e, h0, ?_, h2, h3, h4⟩
    rw [merge_hi fun t q => absurd h0 (R.trk p (by rw [q]; simp))]
    exact h1
  | src =>
    obtain ⟨p, e, h1⟩ := h
    refine ⟨p, e, ?_⟩
    rcases merge_cases (ow := ow) (ow' := ow') p with ⟨t', q1, q2, q3⟩ | ⟨_, q2⟩
    · rcases s.nO p (by rw [h1]; simp) with z | z
      · refine absurd ?_ z
        unfold restr
        rw [q1]
        simp only
        rw [if_neg q2]
      · exact absurd z (R.trk p (by rw [q1]; simp))
    · rw [q2]; exact h1
theorem outC_of {W : WX} {r : CRes} {Q : VK} (s : Stp F0 ow0 H0 F ow H) (R : Rel K F ow σ H env w) (h : OutG K (RY K σ) XR F0 ow0 σ H0 (endC env r) Q W) : OutC K XR F (restr ow) H r Q (WE W σ) := by
  cases r with
  | stuck => exact h
  | ok e w2 =>
    intro F' ow' H' v s' R' r'
    obtain ⟨s3, R3⟩ := R.back s' R'
    exact h F' _ H' v (s.trans s3) R3 (RV.base s (r'.back R s'))
  | exc x w2 =>
    intro F' ow' H' cls d s' R' x'
    obtain ⟨s3, R3⟩ := R.back s' R'
    exact h F' _ H' cls d (s.trans s3) R3 x'

/-! ### a test of a value -/
theorem tst_bool {r : Res EV} {Q : Bool → Hp → Prop} {W : WX} (h : OutG K RYe XR F ow σ H (tst r) Q W) : OutG K (RY K σ) XR F ow σ H r (fun x H1 => ∃ c, x = .bl c ∧ Q c H1) W := by
  cases r with
  | stuck => exact h
  | exc x e w => exact h
  | ok a e w =>
    match a, h with
    | .fz (.bool b), h =>
      intro F' ow' H' v s R y
      cases (show Rp K F' v (.bool b) from y)
      exact ⟨b, rfl, h F' ow' H' b s R rfl⟩
theorem tst_and {r : Res EV} {k : Nv → Wd → Res EV} : tst (r.bind (andK k)) = (tst r).bind fun b e1 w1 => if b = true then tst (k e1 w1) else .ok false e1 w1 := by
  cases r with
  | stuck => rfl
  | exc x e w => rfl
  | ok a e w =>
    match a with
    | .fz (.bool true) => rfl
    | .fz (.bool false) => rfl
    | .fz .none => rfl
    | .fz (.int _) => rfl
    | .fz (.str _) => rfl
    | .fz (.list _) => rfl
    | .fz (.tuple _) => rfl
    | .fz (.dict _) => rfl
    | .bor _ => rfl
    | .lst _ => rfl
    | .src => rfl
theorem tst_or {r : Res EV} {k : Nv → Wd → Res EV} : tst (r.bind (orK k)) = (tst r).bind fun b e1 w1 => if b = true then .ok true e1 w1 else tst (k e1 w1) := by
  cases r with
  | stuck => rfl
  | exc x e w => rfl
  | ok a e w =>
    match a with
    | .fz (.bool true) => rfl
    | .fz (.bool false) => rfl
    | .fz .none => rfl
    | .fz (.int _) => rfl
    | .fz (.str _) => rfl
    | .fz (.list _) => rfl
    | .fz (.tuple _) => rfl
    | .fz (.dict _) => rfl
    | .bor _ => rfl
    | .lst _ => rfl
    | .src => rfl
theorem tst_not {r : Res EV} : tst (r.bind fun v e1 w1 => match v with
    | .fz (.bool b) => .ok (.fz (.bool (!b))) e1 w1
    | _ => .stuck) = (tst r).bind fun b e1 w1 => .ok (!b) e1 w1 := by
  cases r with
  | stuck => rfl
  | exc x e w => rfl
  | ok a e w =>
    match a with
    | .fz (.bool true) => rfl
    | .fz (.bool false) => rfl
    | .fz .none => rfl
    | .fz (.int _) => rfl
    | .fz (.str _) => rfl
    | .fz (.list _) => rfl
    | .fz (.tuple _) => rfl
    | .fz (.dict _) => rfl
    | .bor _ => rfl
    | .lst _ => rfl
    | .src => rfl
theorem Res.bind_assoc {α β γ : Type} (r : Res α) (f : α → Nv → Wd → Res β) (g : β → Nv → Wd → Res γ) : (r.bind f).bind g = r.bind fun a e w => (f a e w).bind g := by cases r <;> rfl

/-! ### targets -/
mutual
def gT (K : PySem.W.Frag) : Tg → TG
  | .nm i => gName i
  | .tp ts => fun v σ H Q => gTup K ts.len (gTs K ts) v σ H Q ∨ gLst K ts.len (gTs K ts) v σ H Q
def gTs (K : PySem.W.Frag) : Tgs → TGs
  | .nil => gNil
  | .cons t ts => gCons (gT K t) (gTs K ts)
def Tgs.len : Tgs → Nat
  | .nil => 0
  | .cons _ ts => ts.len + 1
end
end
end DL

set_option Elab.async false
set_option linter.all false
set_option maxRecDepth 100000
set_option maxHeartbeats 2000000
set_option autoImplicit false
namespace DL
open PySem PySem.Spec L2
mutual
theorem gT_mono {K : PySem.W.Frag} : ∀ {tg : Tg} {x : V} {σ : St} {H : Hp} {Q Q' : St → Hp → Prop}, (∀ σ2 H2, Q σ2 H2 → Q' σ2 H2) → gT K tg x σ H Q → gT K tg x σ H Q'
  | .nm i, _, _, _, _, _, m, h => m _ _ h
  | .tp ts, _, _, _, _, _, m, h => by
    rcases h with h | h
    · obtain ⟨a, xs, h1, h2, h3, h4⟩ := h
      exact .inl ⟨a, xs, h1, h2, h3, gTs_mono m h4⟩
    · obtain ⟨a, xs, h1, h2, h3, h4⟩ := h
      exact .inr ⟨a, xs, h1, h2, h3, gTs_mono m h4⟩
theorem gTs_mono {K : PySem.W.Frag} : ∀ {ts : Tgs} {xs : List V} {σ : St} {H : Hp} {Q Q' : St → Hp → Prop}, (∀ σ2 H2, Q σ2 H2 → Q' σ2 H2) → gTs K ts xs σ H Q → gTs K ts xs σ H Q'
  | .nil, _, _, _, _, _, m, h => ⟨h.1, m _ _ h.2⟩
  | .cons t ts, _, _, _, _, _, m, h => by
    obtain ⟨v, r, h1, h2⟩ := h
    exact ⟨v, r, h1, gT_mono (fun σ2 H2 q => gTs_mono m q) h2⟩
end

section
variable {K : PySem.W.Frag} {XR : XRT} {F F' F0 F1 F2 : Hp} {ow ow' ow0 ow1 ow2 : Ow} {H H' H0 H1 H2 : Hp} {σ : St} {env env' env1 env2 : Nv} {w w' w1 w2 : Wd}

theorem RpAll.len_ts : ∀ {ts : Tgs} {ds : List PyData} {env env1 : Nv}, asgTs env ts ds = some env1 → ds.length = ts.len
  | .nil, [], _, _, _ => rfl
  | .nil, _ :: _, _, _, h => by simp [asgTs] at h
  | .cons t ts, [], _, _, h => by simp [asgTs] at h
  | .cons t ts, d :: ds, env, _, h => by
    simp only [asgTs] at h
    split at h
    · cases h
    · simp [Tgs.len, RpAll.len_ts h]
mutual
theorem asg_ok {K : PySem.W.Frag} {F : Hp} {ow : Ow} {H : Hp} {w : Wd} : ∀ {tg : Tg} {d : PyData} {x : V} {σ : St} {env env1 : Nv}, asgT env tg d = some env1 → Rp K F x d → Rel K F ow σ H env w →
    gT K tg x σ H (fun σ2 H2 => H2 = H ∧ Rel K F ow σ2 H env1 w ∧ σ2.length = σ.length ∧ ∀ i, i ∉ tg.sl → σ2[i]? = σ[i]?)
  | .nm i, d, x, σ, env, env1, h, r, R => by
    simp only [asgT] at h
    split at h
    · cases h
      refine ⟨rfl, R.setD r, by rw [List.length_set], fun j hj => ?_⟩
      rw [List.getElem?_set_ne]
      intro e
      subst e
      exact hj (by simp [Tg.sl])
    · cases h
  | .tp ts, d, x, σ, env, env1, h, r, R => by
    match d, h, r with
    | .list ds, h, r =>
      simp only [asgT] at h
      cases r with
      | lst q a =>
        refine .inr ⟨_, _, rfl, SqL.of (R.sub _ _ q), ?_, ?_⟩
        · rw [a.length]; exact RpAll.len_ts h
        · exact asgs_ok h a R
    | .tuple ds, h, r =>
      simp only [asgT] at h
      cases r with
      | tup q a =>
        refine .inl ⟨_, _, rfl, Same.seqT R.sub q, ?_, ?_⟩
        · rw [a.length]; exact RpAll.len_ts h
        · exact asgs_ok h a R
theorem asgs_ok {K : PySem.W.Frag} {F : Hp} {ow : Ow} {H : Hp} {w : Wd} : ∀ {ts : Tgs} {ds : List PyData} {xs : List V} {σ : St} {env env1 : Nv}, asgTs env ts ds = some env1 → RpAll K F xs ds → Rel K F ow σ H env w →
    gTs K ts xs σ H (fun σ2 H2 => H2 = H ∧ Rel K F ow σ2 H env1 w ∧ σ2.length = σ.length ∧ ∀ i, i ∉ ts.sl → σ2[i]? = σ[i]?)
  | .nil, [], xs, σ, env, env1, h, r, R => by
    cases r
    cases h
    exact ⟨rfl, rfl, R, rfl, fun _ _ => rfl⟩
  | .nil, _ :: _, _, _, _, _, h, _, _ => by simp [asgTs] at h
  | .cons t ts, [], _, _, _, _, h, _, _ => by simp [asgTs] at h
  | .cons t ts, d :: ds, xs, σ, env, env1, h, r, R => by
    simp only [asgTs] at h
    split at h
    · cases h
    · rename_i e1 he
      cases r with
      | cons r1 r2 =>
        refine ⟨_, _, rfl, ?_⟩
        refine gT_mono ?_ (asg_ok he r1 R)
        rintro σ2 H2 ⟨rfl, R2, l2, k2⟩
        refine gTs_mono ?_ (asgs_ok h r2 R2)
        rintro σ3 H3 ⟨rfl, R3, l3, k3⟩
        refine ⟨rfl, R3, l3.trans l2, fun i hi => ?_⟩
        simp only [Tgs.sl, List.mem_append, not_or] at hi
        rw [k3 i hi.2, k2 i hi.1]
end

theorem wipe_in {i : Nat} : ∀ {vs : List Nat}, i ∈ vs → (L2.wipe σ vs)[i]? = if i < σ.length then some none else none
  | [], h => by simp at h
  | v :: vs, h => by
    show ((L2.wipe σ vs).set v none)[i]? = _
    by_cases e : i = v
    · subst e
      by_cases q : i < σ.length
      · rw [List.getElem?_set_self (by rw [wipe_length]; exact q), if_pos q]
      · rw [if_neg q, List.getElem?_eq_none (by rw [List.length_set, wipe_length]; omega)]
    · rw [List.getElem?_set_ne (by omega)]
      exact wipe_in ((List.mem_cons.mp h).resolve_left e)
theorem wipe_eq {σ2 : St} {vs : List Nat} (hl : σ2.length = σ.length) (h : ∀ i, i ∉ vs → σ2[i]? = σ[i]?) : L2.wipe σ2 vs = L2.wipe σ vs := by
  apply List.ext_getElem?
  intro i
  by_cases q : i ∈ vs
  · rw [wipe_in q, wipe_in q, hl]
  · rw [wipe_out q, wipe_out q, h i q]
theorem wipe_wipe {vs : List Nat} : L2.wipe (L2.wipe σ vs) vs = L2.wipe σ vs := wipe_eq (wipe_length _ _) fun i h => wipe_out h

abbrev WF : WX := fun _ _ _ _ => False
theorem noX_ok {α : Type} {r : Res α} {β : Type} {k : α → Nv → Wd → Res β} {a : β} {e : Nv} {w : Wd} (h : (noX r).bind k = .ok a e w) : ∃ b e1 w1, r = .ok b e1 w1 ∧ k b e1 w1 = .ok a e w := by
  cases r with
  | stuck => cases h
  | exc x e w => cases h
  | ok b e1 w1 => exact ⟨b, e1, w1, rfl, h⟩
theorem noX_out {α γ δ : Type} {Z : Hp → Hp → Ow → Hp → δ → γ → Prop} {r : Res α} {k : α → Nv → Wd → Res γ} {Q : δ → Hp → Prop} {W : WX} (h : OutG K Z XR F ow σ H ((noX r).bind k) Q W) : ∃ b e1 w1, r = .ok b e1 w1 ∧ OutG K Z XR F ow σ H (k b e1 w1) Q W := by
  cases r with
  | stuck => exact h.elim
  | exc x e w => exact h.elim
  | ok b e1 w1 => exact ⟨b, e1, w1, rfl, h⟩
theorem bind_okR {α β : Type} {r : Res α} {k : α → Nv → Wd → Res β} {b : β} {e : Nv} {w : Wd} (h : r.bind k = .ok b e w) : ∃ a e1 w1, r = .ok a e1 w1 ∧ k a e1 w1 = .ok b e w := by
  cases r with
  | stuck => cases h
  | exc x e w => cases h
  | ok a e1 w1 => exact ⟨a, e1, w1, rfl, h⟩
theorem held_live {k : Ik} {Lv : Hp → Hp → Prop} {vs : List Nat} {ds : List PyData} (lo : LvOk K σ F1 k Lv) (s : Same F1 F) (hh : Held (k.hold env1) env) (R : Rel K F ow (L2.wipe σ vs) H env w) : Lv F H := by
  unfold LvOk at lo
  unfold Held Ik.hold at hh
  cases q : k.at_ with
  | none => rw [q] at lo; exact lo F H s R.sub
  | some i =>
    rw [q] at lo hh
    exact lo.1 F ow (L2.wipe σ vs) H env w R (fun x h => (wipe_some h).1) hh

theorem lc_sem {fit : Mo Ik} {tg : Tg} {vs : List Nat} {c : Mo Bool} {f : Mo EV} {Q : VK} {W : WX} (hsl : ∀ i, i ∈ tg.sl → i ∈ vs)
    (h : Sem K XR (fun env w => (fit env w).bind fun k e1 w1 => (noX (lcGo tg vs (k.hold e1) c f k.items [] (wipeE e1 vs) w1)).bind fun xs e2 w2 => .ok (.lst xs) (keepE e1 e2 vs) w2) W σ H Q) :
    tLc (SemI K XR fit W) (gT K tg) (SemT K XR c WF) (Sem K XR f WF) vs σ H Q := by
  obtain ⟨F, ow, env, w, R, h⟩ := h
  refine R.semI .refl h fun J H1 F1 ow1 k e1 w1 s01 _ R1 y1 h1 => ?_
  obtain ⟨Lv, Y, lo⟩ := y1
  obtain ⟨xs, e2, w2, hG, h2⟩ := noX_out h1
  intro D hD
  have h0D : H D = none := s01.free hD
  refine ⟨fun i m H' => m = k.items.length - i ∧ i ≤ k.items.length ∧ ∃ F' ow' env' w' acc vacc, Stp F1 ow1 H1 F' ow' H' ∧ Rel K F' ow' (L2.wipe σ vs) H' env' w' ∧ H' D = some (.lst vacc) ∧ ow' D = none ∧ F' D = none ∧ RpAll K F' vacc acc ∧
      lcGo tg vs (k.hold e1) c f (k.items.drop i) acc env' w' = .ok xs e2 w2, ⟨k.items.length, by simp, Nat.zero_le _, ?_⟩, ?_⟩
  · have R1' := (R1.wipe vs).newT (o := .lst []) hD
    exact ⟨F1, ow1, _, w1, [], [], R1'.2, R1'.1, upd_same, R1.owF hD, R1.frF hD, .nil, by simpa using hG⟩
  · rintro i m H' ⟨rfl, hi, F', ow', env', w', acc, vacc, s', R', hD', oD', fD', ha, hr⟩
    by_cases hlt : i < k.items.length
    · right
      have hdr : k.items.drop i = k.items[i] :: k.items.drop (i + 1) := List.drop_eq_getElem_cons hlt
      have hd : k.items[i]? = some k.items[i] := List.getElem?_eq_getElem hlt
      rw [hdr] at hr
      simp only [lcGo] at hr
      split at hr
      · rename_i hh
        have lv : Lv F' H' := held_live (ds := k.items) lo s'.fz hh R'
        split at hr
        · cases hr
        · rename_i e1' he
          obtain ⟨b, e3, w3, hc, hr⟩ := bind_okR hr
          refine ⟨Y.go i F' H' _ lv hd, fun H9 => (k.items.length - (i + 1) = k.items.length - (i + 1)) ∧ i + 1 ≤ k.items.length ∧ ∃ F' ow' env' w' acc vacc, Stp F1 ow1 H1 F' ow' H9 ∧ Rel K F' ow' (L2.wipe σ vs) H9 env' w' ∧ H9 D = some (.lst vacc) ∧ ow' D = none ∧ F' D = none ∧ RpAll K F' vacc acc ∧
            lcGo tg vs (k.hold e1) c f (k.items.drop (i + 1)) acc env' w' = .ok xs e2 w2, fun H9 h9 => ⟨k.items.length - (i + 1), by omega, rfl, h9.2⟩, fun x H'' hy => ?_⟩
          obtain ⟨F'', mk⟩ := Y.yld i F' H' _ x H'' lv hd hy
          obtain ⟨s2, R2, r2⟩ := mk.ok R'
          have hD2 := s2.fr D _ oD' hD'
          have fD2 := s2.frN fD' oD' hD'
          refine gT_mono ?_ (asg_ok he r2 R2)
          rintro σ2 H3 ⟨rfl, R3, l3, k3⟩
          have hw : L2.wipe σ2 vs = L2.wipe σ vs := by
            rw [wipe_eq (σ := L2.wipe σ vs) l3 fun i hi => k3 i fun q => hi (hsl i q), wipe_wipe]
          refine ⟨hw, F'', ow', e1', w', R3, ?_⟩
          rw [hc]
          rintro F4 ow4 H4 b' s4 R4 rfl
          have hD4 := s4.fr D _ oD' hD2
          have oD4 := s4.owN oD' hD2
          have fD4 := s4.frN fD2 oD' hD2
          by_cases hb : b' = true
          · rw [if_pos hb] at hr
            rw [if_pos hb]
            obtain ⟨v, e5, w5, hf, hr⟩ := bind_okR hr
            refine ⟨F4, ow4, e3, w3, R4, ?_⟩
            rw [hf]
            intro F5 ow5 H5 y s5 R5 r5
            split at hr
            · cases hr
            · rename_i z e6 he6
              split at hr
              · rename_i hlen
                obtain ⟨F6, ow6, s6, R6, r6, lg⟩ := esc1_ok s5 R5 r5.weak he6
                have hD6 := s6.fr D _ oD4 hD4
                have oD6 := s6.owN oD4 hD4
                have fD6 := s6.frN fD4 oD4 hD4
                have all : Stp F1 ow1 H1 F6 ow6 H5 := ((s'.trans s2).trans s4).trans s6
                refine ⟨vacc, hD6, by rw [ha.length]; exact hlen, rfl, hlt, F6, ow6, wipeE e6 vs, w5, acc ++ [z], vacc ++ [y], ?_⟩
                obtain ⟨R7, s7⟩ := R6.updT (o := .lst (vacc ++ [y])) all hD oD6 fD6
                refine ⟨s7, ?_, upd_same, oD6, fD6, (RpAll.mono ((s2.fz.trans s4.fz).trans s6.fz) _ _ ha).append (.cons r6 .nil), hr⟩
                have := R7.wipe vs
                rw [hw] at this
                exact this
              · cases hr
          · rw [if_neg hb] at hr
            rw [if_neg hb]
            refine ⟨rfl, hlt, F4, ow4, wipeE e3 vs, w3, acc, vacc, (s'.trans s2).trans s4, ?_, hD4, oD4, fD4, RpAll.mono (s2.fz.trans s4.fz) _ _ ha, hr⟩
            have := R4.wipe vs
            rw [hw] at this
            exact this
      · cases hr
    · left
      have hi' : k.items.length ≤ i := by omega
      rw [List.drop_eq_nil_of_le hi'] at hr
      simp only [lcGo] at hr
      split at hr
      · rename_i hh
        cases hr
        have lv : Lv F' H' := held_live (ds := k.items) lo s'.fz hh R'
        refine ⟨Y.stop i F' H' lv hi', h2 F' ow' H' (.ref D) (s01.trans s') (Rel.keep R1 s'.fz R' wipe_wipe) ⟨D, vacc, rfl, h0D, oD', fD', hD', ha⟩⟩
      · cases hr
end
end DL

set_option Elab.async false
set_option linter.all false
set_option maxRecDepth 100000
set_option maxHeartbeats 2000000
set_option autoImplicit false
namespace DL
open PySem PySem.Spec L2

def bnames : List Str := ["len", "int", "abs", "min", "max", "sorted", "tuple", "list", "any", "all", "repr", "sum", "isinstance", "bool", "str", "dict", "range", "enumerate", "zip", "set"]
/-- what the expressions' surroundings must be -/
structure Fits (XR : XRT) (X : Cx) (cx : Cxt) (fn : Fns) (n : Nat) : Prop where
  N : X.N = cx.N
  nd : cx.N.Nodup
  sc : X.env.scope = cx.sc
  fnb : X.fn = cx.fnb
  calm : X.calm = true
  gd : X.A.guards = some []
  room : Room n X.A
  bi : ∀ x, x ∈ bnames → X.mg x = none
  defs : ∀ f x, cx.defs[f]? = some x → ∃ a fd ps, X.mg x = some (.ref a) ∧ PySem.W.keepIn X.K (.ref a) = true ∧ Binds X.K fd ps [] ∧ FnG X.prog X.w X.K X.mg X.base n a fd ps (SpD X.K XR ps.length (fn f)) ∧ ∀ as w, as.length ≠ ps.length → fn f as w = .stuck
section
variable {XR : XRT} {X : Cx} {cx : Cxt} {fn : Fns} {n : Nat} {W : WX}
theorem Fits.un (f : Fits XR X cx fn n) : X.A.units + 65 < cLine := by have := f.room.un; omega
theorem Fits.blk (f : Fits XR X cx fn n) (s : Shared) (H : Hp) (scope : Scope) (C : Addr) (cl : List (Str × Addr)) (fp : List Addr) : Fits XR (X.blk s H scope (compEnvC scope cl C X.env) fp) (blkCx cx scope) fn n :=
  ⟨f.N, f.nd, by show relS scope X.env.scope = relS scope cx.sc; rw [f.sc], rfl, f.calm, f.gd, f.room, f.bi, f.defs⟩
theorem Fits.gl (f : Fits XR X cx fn n) {x : Str} (h : glB cx.sc x = true) : Gl X x := by
  unfold glB at h
  show X.env.scope.names.lookup x = _
  rw [f.sc]
  split at h
  · assumption
  · cases h
theorem Fits.vis (f : Fits XR X cx fn n) {x : Str} (h : visB cx.sc x = true) : Vis X.env.scope x := by
  unfold visB at h
  unfold Vis
  rw [f.sc]
  split at h
  · exact .inl (by assumption)
  · exact .inr (.inl (by assumption))
  · exact .inr (.inr (by assumption))
  · cases h
theorem Fits.loc (f : Fits XR X cx fn n) {x : Str} (h : locB cx x = true) : L2.Loc X.env.scope x ∧ (X.fn x = true ∨ X.env.scope.names.lookup x = some .local) := by
  unfold locB at h
  unfold L2.Loc
  rw [f.sc, f.fnb]
  split at h
  · exact ⟨.inl (by assumption), .inr (by assumption)⟩
  · exact ⟨.inr (by assumption), .inl h⟩
  · cases h
theorem odd_not {x : Str} (h : odd x = false) : (x == ("__debug__" : Str)) = false ∧ (x == ("__classdict__" : Str)) = false ∧ x ≠ "__name__" := by
  unfold odd at h
  simp only [Bool.or_eq_false_iff] at h
  exact ⟨h.1.1, h.1.2, by simpa using h.2⟩

/-! ### plain expressions -/
theorem star_plain {x : Expr} {xs : List Expr} {env : Env} (h : okX x = true) : starEach (x :: xs) env = (false, eval x env) :: starEach xs env := by
  cases x <;> first | rfl | (simp [okX] at h)
theorem ix_plain {x : Expr} (h : okX x = true) : PlainIx x := by
  intro o i
  cases x <;> first | rfl | (simp [okX] at h)
theorem mark_plain {x : Expr} {op : CmpOp} (h : okX x = true) : behindInMarks op x = false := by
  cases x <;> first | rfl | (simp [okX] at h)
theorem any_plain {env : Env} {pos : Pos} : ∀ {xs : List Expr}, (∀ x, x ∈ xs → okX x = true) → (backTo pos (starEach xs env)).any (·.1) = false
  | [], _ => rfl
  | x :: xs, h => by
    rw [star_plain (h x (by simp))]
    show (false || (backTo pos (starEach xs env)).any (·.1)) = false
    rw [any_plain fun y hy => h y (by simp [hy])]
    rfl
theorem chk_ok : ∀ {e : E} {cx : Cxt} {x : Expr}, chk cx e x = true → okX x = true := by
  intro e cx x h
  cases x <;> first | rfl | skip
  all_goals (cases e <;> simp [chk, isSlot, isNone] at h)
theorem chks_ok : ∀ {es : Es} {cx : Cxt} {xs : List Expr}, chks cx es xs = true → ∀ x, x ∈ xs → okX x = true
  | .nil, _, [], _, x, hx => by simp at hx
  | .cons e es, _, [], h, _, _ => by simp [chks] at h
  | .nil, _, _ :: _, h, _, _ => by simp [chks] at h
  | .cons e es, cx, x :: xs, h, y, hy => by
    simp only [chks, Bool.and_eq_true] at h
    rcases List.mem_cons.mp hy with rfl | hy
    · exact chk_ok h.1
    · exact chks_ok h.2 y hy

/-! ### targets -/
theorem pgs_len {ts : Tgs} : ∀ {es : List Expr} {env : Env}, tgsB cx ts es = true → (assignEach es env).length = ts.len ∧ (assignEach es env).findIdx? (·.1) = none := by
  intro es env h
  induction es generalizing ts with
  | nil =>
    cases ts with
    | nil => exact ⟨rfl, rfl⟩
    | cons t ts => simp [tgsB] at h
  | cons e es ih =>
    cases ts with
    | nil => simp [tgsB] at h
    | cons t ts =>
      simp only [tgsB, Bool.and_eq_true] at h
      obtain ⟨h1, h2⟩ := ih h.2
      have : assignEach (e :: es) env = (false, assign e env) :: assignEach es env := by
        cases t with
        | nm i => cases e <;> first | rfl | (simp [tgB] at h)
        | tp us => cases e <;> first | rfl | (simp [tgB] at h)
      rw [this]
      refine ⟨by simp [Tgs.len, h1], ?_⟩
      rw [List.findIdx?_cons]
      simp [h2]
mutual
theorem tg_ok (f : Fits XR X cx fn n) : ∀ (t : Tg) (e : Expr), tgB cx t e = true → PG X e (gT X.K t)
  | .nm i, e, h => by
    cases e <;> first | (simp [tgB] at h; done) | skip
    rename_i x c
    simp only [tgB, Bool.and_eq_true, decide_eq_true_eq] at h
    have q := f.loc h.2
    exact pg_name (by rw [f.N]; exact f.nd) (by rw [f.N]; exact h.1) q.1 q.2
  | .tp ts, e, h => by
    cases e <;> first | (simp [tgB] at h; done) | skip
    rename_i es c p
    simp only [tgB] at h
    have q := pgs_len (env := X.env) h
    have g1 := pg_tup (pos := p) (k := c) f.calm (tgs_ok f ts es h) q.1 q.2
    have g2 := pg_lst (pos := p) (k := c) f.calm (tgs_ok f ts es h) q.1 q.2
    exact ⟨fun pins s σ H v u Q I r w => w.elim (fun w => g1.run pins s σ H v u Q I r w) fun w => g2.run pins s σ H v u Q I r w⟩
theorem tgs_ok (f : Fits XR X cx fn n) : ∀ (t : Tgs) (e : List Expr), tgsB cx t e = true → PGs X e (gTs X.K t)
  | .nil, [], h => pgs_nil
  | .nil, _ :: _, h => by simp [tgsB] at h
  | .cons _ _, [], h => by simp [tgsB] at h
  | .cons t ts, e :: es, h => by
    have h' := h
    simp only [tgsB, Bool.and_eq_true] at h
    refine pgs_cons (tg_ok f t e h.1) (tgs_ok f ts es h.2) ?_
    cases t with
    | nm i => cases e <;> first | rfl | (simp [tgB] at h)
    | tp us => cases e <;> first | rfl | (simp [tgB] at h)
end
end
end DL

set_option Elab.async false
set_option linter.all false
set_option maxRecDepth 100000
set_option maxHeartbeats 4000000
set_option autoImplicit false
namespace DL
open PySem PySem.Spec L2

section
variable {XR : XRT} {X : Cx} {cx : Cxt} {fn : Fns} {n : Nat} {W : WX}
abbrev Both (XR : XRT) (X : Cx) (x : Expr) (f : Mo EV) (W : WX) : Prop := PE X x (Sem X.K XR f W) ∧ PT X x (SemT X.K XR (fun env w => tst (f env w)) W)
theorem SemT.val {f : Mo EV} {σ : St} {H : Hp} {Q : Bool → Hp → Prop} (h : SemT X.K XR (fun env w => tst (f env w)) W σ H Q) : Sem X.K XR f W σ H fun x H1 => ∃ c, x = .bl c ∧ Q c H1 := by
  obtain ⟨F, ow, env, w, R, q⟩ := h
  exact ⟨F, ow, env, w, R, tst_bool q⟩
theorem both {x : Expr} {f : Mo EV} (h : PE X x (Sem X.K XR f W)) (he : ∀ whole, isTrue x X.env whole = (do let v ← whole; standAt x.pos; holding [v] (truthy v)) := by intro _; rfl) : Both XR X x f W :=
  ⟨h, PT.sub (pt_val h he) fun σ H Q q => SemT.val q⟩
theorem bothC {x : Expr} {f : Mo EV} {t : TE} (h : PE X x t) (h' : PT X x (tTest t)) (m : ∀ σ H Q, Sem X.K XR f W σ H Q → t σ H Q) : Both XR X x f W :=
  ⟨PE.sub h m, PT.sub h' fun σ H Q q => m σ H _ (SemT.val q)⟩
/-- a slot's name, as an expression -/
theorem slot_pe (f : Fits XR X cx fn n) {i : Nat} {x : Expr} (h : isSlot cx i x = true) : PE X x (tVar i) ∧ ∃ y p, x = .Name y p := by
  cases x <;> first | (simp [isSlot] at h; done) | skip
  rename_i y p
  simp only [isSlot, Bool.and_eq_true, decide_eq_true_eq, Bool.not_eq_true'] at h
  have q := odd_not h.2
  exact ⟨pe_var (by rw [f.N]; exact h.1.1) (f.vis h.1.2) q.1 q.2.1, y, p, rfl⟩
theorem var_sem {i : Nat} {σ : St} {H : Hp} {Q : VK} (h : Sem X.K XR (ev fn (.var i)) W σ H Q) : tVar i σ H Q := by
  obtain ⟨F, ow, env, w, R, h⟩ := h
  simp only [ev] at h
  split at h
  · rename_i d he
    obtain ⟨v, e1, e2⟩ := R.slot i _ he
    exact ⟨v, e1, h _ _ _ _ .refl R e2⟩
  · rename_i ds he
    obtain ⟨v, e1, e2⟩ := R.slot i _ he
    exact ⟨v, e1, h _ _ _ _ .refl R e1⟩
  · rename_i he
    obtain ⟨v, e1, e2⟩ := R.slot i _ he
    exact ⟨v, e1, h _ _ _ _ .refl R e2⟩
  · exact h.elim
theorem bin_sem {o : PyData → PyData → Option EV} {f g : Mo EV} {σ : St} {H : Hp} {Q : VK}
    (h : Sem X.K XR (fun env w => (f env w).bind fun x e1 w1 => (g e1 w1).bind fun y e2 w2 => match dval e2 x, dval e2 y with
      | some d, some e => pick1 (o d e) e2 w2
      | _, _ => .stuck) W σ H Q) : tOp (rBin X.K o) (Sem X.K XR f W) (Sem X.K XR g W) σ H Q := by
  obtain ⟨F, ow, env, w, R, h⟩ := h
  refine R.semE .refl h fun x H1 F1 ow1 a e1 w1 s01 _ R1 r1 h1 => ?_
  refine R1.semE s01 h1 fun y H2 F2 ow2 b e2 w2 s02 s12 R2 r2 h2 => ?_
  split at h2
  · rename_i d e hd he
    obtain ⟨z, hz, h3⟩ := pick1_ok h2
    exact ⟨F2, d, e, z, R2.sub, (r1.step s12).dv R2 hd, r2.dv R2 he, hz, give_of s02 R2 h3⟩
  · exact h2.elim
theorem un_sem {o : PyData → Option EV} {f : Mo EV} {σ : St} {H : Hp} {Q : VK} {P : V → Hp → Prop}
    (h : Sem X.K XR (fun env w => (f env w).bind fun x e1 w1 => match dval e1 x with
      | some d => pick1 (o d) e1 w1
      | _ => .stuck) W σ H Q) (m : ∀ v H F d z, Same F H → DV X.K F H v d → o d = some z → Give X.K F H z Q → P v H) : Sem X.K XR f W σ H P := by
  obtain ⟨F, ow, env, w, R, h⟩ := h
  refine R.semE .refl h fun x H1 F1 ow1 a e1 w1 s01 _ R1 r1 h1 => ?_
  split at h1
  · rename_i d hd
    obtain ⟨z, hz, h3⟩ := pick1_ok h1
    exact m x H1 F1 d z R1.sub (r1.dv R1 hd) hz (give_of s01 R1 h3)
  · exact h1.elim
/-- a if t else b, as a test -/
theorem pt_ite {c a b : Expr} {p : Pos} {tc ta tb : TT} (hc : PT X c tc) (ha : PT X a ta) (hb : PT X b tb) : PT X (.IfExp c a b p) (fun σ H Q => tc σ H fun k H1 => if k = true then ta σ H1 Q else tb σ H1 Q) := by
  refine ⟨fun pins s σ H Q I h => ?_⟩
  show wpAny _ _ (isTrue c X.env (eval c X.env) >>= fun k => if k = true then isTrue a X.env (eval a X.env) else isTrue b X.env (eval b X.env)) _ _ s
  refine wpAny_bind (thn (hc.run pins s σ H _ I h) fun k s1 ⟨H1, I1, q1⟩ => ?_)
  cases k with
  | true => exact ha.run pins s1 σ H1 _ I1 q1
  | false => exact hb.run pins s1 σ H1 _ I1 q1
theorem ite_sem {c a b : Mo EV} {σ : St} {H : Hp} {Q : VK} (h : Sem X.K XR (fun env w => (tst (c env w)).bind fun k e1 w1 => if k = true then a e1 w1 else b e1 w1) W σ H Q) :
    tIf (SemT X.K XR (fun env w => tst (c env w)) W) (Sem X.K XR a W) (Sem X.K XR b W) σ H Q := by
  obtain ⟨F, ow, env, w, R, h⟩ := h
  refine R.semT (f := fun env w => tst (c env w)) .refl h fun k H1 F1 ow1 e1 w1 s01 _ R1 h1 => ?_
  by_cases q : k = true
  · rw [if_pos q] at h1 ⊢
    exact R1.semL s01 h1
  · rw [if_neg q] at h1 ⊢
    exact R1.semL s01 h1
theorem tst_ite {r : Res Bool} {a b : Mo EV} : tst (r.bind fun k e1 w1 => if k = true then a e1 w1 else b e1 w1) = r.bind fun k e1 w1 => if k = true then tst (a e1 w1) else tst (b e1 w1) := by
  cases r with
  | stuck => rfl
  | exc x e w => rfl
  | ok k e w => cases k <;> rfl
theorem iteT_sem {c a b : Mo EV} {σ : St} {H : Hp} {Q : Bool → Hp → Prop} (h : SemT X.K XR (fun env w => tst ((tst (c env w)).bind fun k e1 w1 => if k = true then a e1 w1 else b e1 w1)) W σ H Q) :
    SemT X.K XR (fun env w => tst (c env w)) W σ H fun k H1 => if k = true then SemT X.K XR (fun env w => tst (a env w)) W σ H1 Q else SemT X.K XR (fun env w => tst (b env w)) W σ H1 Q := by
  obtain ⟨F, ow, env, w, R, h⟩ := h
  dsimp only at h
  rw [tst_ite] at h
  refine R.semT (f := fun env w => tst (c env w)) .refl h fun k H1 F1 ow1 e1 w1 s01 _ R1 h1 => ?_
  by_cases q : k = true
  · rw [if_pos q] at h1 ⊢
    exact R1.semLT (f := fun env w => tst (a env w)) s01 h1
  · rw [if_neg q] at h1 ⊢
    exact R1.semLT (f := fun env w => tst (b env w)) s01 h1
theorem tup_sem {g : Mo (List EV)} {σ : St} {H : Hp} {Q : VK} (h : Sem X.K XR (fun env w => (g env w).bind fun xs e1 w1 => match escD e1 xs with
    | some (ds, e2) => if ds.length ≤ sizeLine then .ok (.fz (.tuple ds)) e2 w1 else .stuck
    | none => .stuck) W σ H Q) : tTup (SemA X.K XR g W) σ H Q := by
  obtain ⟨F, ow, env, w, R, h⟩ := h
  refine R.semA .refl h fun xs H1 F1 ow1 a e1 w1 s01 _ R1 r1 h1 => ?_
  split at h1
  · rename_i ds e2 he
    split at h1
    · rename_i hl
      obtain ⟨F2, ow2, s2, R2, r2, l2⟩ := escD_ok s01 R1 r1.weak he
      exact ⟨by rw [r2.length]; exact hl, (give_of s2 R2 h1).tup r2⟩
    · exact h1.elim
  · exact h1.elim
theorem lst_sem {g : Mo (List EV)} {σ : St} {H : Hp} {Q : VK} (h : Sem X.K XR (fun env w => (g env w).bind fun xs e1 w1 => match escD e1 xs with
    | some (ds, e2) => if ds.length ≤ sizeLine then .ok (.lst ds) e2 w1 else .stuck
    | none => .stuck) W σ H Q) : tLst (SemA X.K XR g W) σ H Q := by
  obtain ⟨F, ow, env, w, R, h⟩ := h
  refine R.semA .refl h fun xs H1 F1 ow1 a e1 w1 s01 _ R1 r1 h1 => ?_
  split at h1
  · rename_i ds e2 he
    split at h1
    · rename_i hl
      obtain ⟨F2, ow2, s2, R2, r2, l2⟩ := escD_ok s01 R1 r1.weak he
      exact ⟨by rw [r2.length]; exact hl, (give_of s2 R2 h1).lst r2⟩
    · exact h1.elim
  · exact h1.elim
theorem bi_sem {b : Bi} {g : Mo (List EV)} {σ : St} {H : Hp} {Q : VK} (h : Sem X.K XR (fun env w => (g env w).bind fun xs e1 w1 => match xs.mapM (dval e1) with
    | some ds => pick1 (biD b ds) e1 w1
    | none => .stuck) W σ H Q) : tCB (rBi X.K b) (SemA X.K XR g W) σ H Q := by
  obtain ⟨F, ow, env, w, R, h⟩ := h
  refine R.semA .refl h fun xs H1 F1 ow1 a e1 w1 s01 _ R1 r1 h1 => ?_
  split at h1
  · rename_i ds he
    obtain ⟨z, hz, h3⟩ := pick1_ok h1
    exact ⟨F1, ds, z, R1.sub, r1.dvs R1 he, hz, give_of s01 R1 h3⟩
  · exact h1.elim
theorem call_sem {m : Nat} {g : Mo (List EV)} {σ : St} {H : Hp} {Q : VK} {G : List EV → Wd → CRes} (hm : ∀ as w, as.length ≠ m → G as w = .stuck)
    (h : Sem X.K XR (fun env w => (g env w).bind fun xs e1 w1 => match escA e1 xs with
      | some (as, e2) => endC e2 (G as w1)
      | none => .stuck) W σ H Q) : tCallS (SpD X.K XR m G) (WE W) (SemA X.K XR g W) σ H Q := by
  obtain ⟨F, ow, env, w, R, h⟩ := h
  refine R.semA .refl h fun xs H1 F1 ow1 a e1 w1 s01 _ R1 r1 h1 => ?_
  split at h1
  · rename_i as e2 he
    obtain ⟨F2, ow2, s2, R2, r2, l2⟩ := escA_ok s01 R1 r1.weak he
    have o := outC_of s2 R2 h1
    refine ⟨?_, F2, restr ow2, as, w1, R2.callee, fun a t q => (restr_some.mp q).2, r2.callee, o⟩
    rw [r2.length]
    by_cases q : as.length = m
    · exact q
    · rw [hm as w1 q] at o
      exact o.elim
  · exact h1.elim
theorem isi_sem {t : Ty} {f : Mo EV} {σ : St} {H : Hp} {Q : VK} (h : Sem X.K XR (fun env w => (f env w).bind fun x e1 w1 => match dval e1 x with
    | some d => .ok (.fz (.bool (isiD t d))) e1 w1
    | none => .stuck) W σ H Q) :
    tCB (fun xs H Q => ∃ F x d, xs = [x, tyV' t] ∧ Same F H ∧ DV X.K F H x d ∧ Q (.bl (isiD t d)) H) (tCons (Sem X.K XR f W) (tCons (tC (tyV' t)) tNil)) σ H Q := by
  obtain ⟨F, ow, env, w, R, h⟩ := h
  refine R.semE .refl h fun x H1 F1 ow1 a e1 w1 s01 _ R1 r1 h1 => ?_
  split at h1
  · rename_i d hd
    exact ⟨F1, x, d, rfl, R1.sub, r1.dv R1 hd, (give_of s01 R1 h1).bl⟩
  · exact h1.elim
theorem ty_rel (t : Ty) : RelV (tyV' t) (tyVal t) := by cases t <;> rfl
theorem popAt_sem {i : Nat} {f : Mo EV} {σ : St} {H : Hp} {Q : VK} (h : Sem X.K XR (fun env w => match env[i]? with
    | some (some (.lst _)) => (f env w).bind fun x e1 w1 => popI i x e1 w1
    | _ => .stuck) W σ H Q) : tBM X.K "list" rPopAt (tVar i) (tCons (Sem X.K XR f W) tNil) σ H Q := by
  obtain ⟨F, ow, env, w, R, h⟩ := h
  dsimp only at h
  split at h
  · rename_i ds0 he0
    obtain ⟨v0, e0, p0, vs0, rfl, hp0, hH0, ha0⟩ := R.slot i _ he0
    refine ⟨_, e0, .inl ⟨rfl, _, SqL.of hH0⟩, ?_⟩
    refine R.semE .refl h fun x H1 F1 ow1 a e1 w1 s01 _ R1 r1 h1 => ?_
    unfold popI at h1
    split at h1
    · rename_i k ds hd he
      split at h1
      · rename_i j hj
        split at h1
        · rename_i d hdj
          split at h1
          · rename_i hb
            obtain ⟨p, vs, q1, q2, q3, q4⟩ := R1.upL he
            obtain rfl : p = p0 := V.ref.inj (Option.some.inj (Option.some.inj (q1.symm.trans e0)))
            obtain ⟨v, q5, q6⟩ := q3.get hdj
            obtain ⟨R2, s2⟩ := q4 (vs.eraseIdx j) (ds.eraseIdx j) (q3.eraseIdx j)
            refine ⟨p, vs, k, j, v, rfl, ?_, q2, hb.1, hb.2, by rw [q3.length]; exact hj, q5, ?_⟩
            · rw [(r1.dv R1 hd).int]
            · exact h1 _ _ _ _ (s01.trans s2) R2 q6
          · exact h1.elim
        · exact h1.elim
      · exact h1.elim
    · exact h1.elim
  · exact h.elim
theorem pop_sem {i : Nat} {σ : St} {H : Hp} {Q : VK} (h : Sem X.K XR (ev fn (.pop i)) W σ H Q) : tBM0 X.K "list" rPop (tVar i) σ H Q := by
  obtain ⟨F, ow, env, w, R, h⟩ := h
  simp only [ev] at h
  split at h
  · rename_i ds he
    split at h
    · rename_i d hd
      obtain ⟨p, vs, q1, q2, q3, q4⟩ := R.upL he
      obtain ⟨v, q5, q6⟩ := q3.get hd
      obtain ⟨R2, s2⟩ := q4 vs.dropLast ds.dropLast (by rw [List.dropLast_eq_take, List.dropLast_eq_take, q3.length]; exact q3.take _)
      refine ⟨_, q1, .inl ⟨rfl, _, SqL.of q2⟩, p, vs, v, rfl, rfl, q2, by rw [q3.length]; exact q5, ?_⟩
      exact h _ _ _ _ s2 R2 q6
    · exact h.elim
  · exact h.elim
theorem chn_sem {op op2 : Cop} {f g k : Mo EV} {σ : St} {H : Hp} {Q : VK} (h : Sem X.K XR (fun env w => (f env w).bind fun x e1 w1 => (g e1 w1).bind fun y e2 w2 => match dval e2 x, dval e2 y with
    | some d, some e => chnK (cmpD op d e) ((k e2 w2).bind fun z e3 w3 => match dval e3 y, dval e3 z with
        | some e', some g => pick1 ((cmpD op2 e' g).map fun c => .fz (.bool c)) e3 w3
        | _, _ => .stuck) (.ok (.fz (.bool false)) e2 w2)
    | _, _ => .stuck) W σ H Q) : tChain (rBin X.K (cmpE op)) (rBin X.K (cmpE op2)) (Sem X.K XR f W) (Sem X.K XR g W) (Sem X.K XR k W) σ H Q := by
  obtain ⟨F, ow, env, w, R, h⟩ := h
  refine R.semE .refl h fun x H1 F1 ow1 a e1 w1 s01 _ R1 r1 h1 => ?_
  refine R1.semE s01 h1 fun y H2 F2 ow2 b e2 w2 s02 s12 R2 r2 h2 => ?_
  split at h2
  · rename_i d e hd he
    unfold chnK at h2
    split at h2
    · rename_i hc
      refine ⟨F2, d, e, .fz (.bool true), R2.sub, (r1.step s12).dv R2 hd, r2.dv R2 he, by unfold cmpE; rw [hc]; rfl, fun v F' H' m => ?_⟩
      obtain ⟨s3, R3, r3⟩ := m.ok R2
      cases (show Rp X.K F' v (.bool true) from r3)
      refine ⟨true, rfl, ?_⟩
      rw [if_pos rfl]
      refine R3.semE (s02.trans s3) h2 fun z H4 F4 ow4 c e4 w4 s04 s34 R4 r4 h4 => ?_
      split at h4
      · rename_i e' g hd' hg'
        obtain ⟨z', hz, h5⟩ := pick1_ok h4
        exact ⟨F4, e', g, z', R4.sub, ((r2.step s3).step s34).dv R4 hd', r4.dv R4 hg', hz, give_of s04 R4 h5⟩
      · exact h4.elim
    · rename_i hc
      refine ⟨F2, d, e, .fz (.bool false), R2.sub, (r1.step s12).dv R2 hd, r2.dv R2 he, by unfold cmpE; rw [hc]; rfl, fun v F' H' m => ?_⟩
      obtain ⟨s3, R3, r3⟩ := m.ok R2
      cases (show Rp X.K F' v (.bool false) from r3)
      refine ⟨false, rfl, ?_⟩
      rw [if_neg (by decide)]
      exact h2 F' _ H' _ (s02.trans s3) R3 r3
    · exact h2.elim
  · exact h2.elim
theorem slc_sem {f : Mo EV} {g k : Mo (Option Int)} {σ : St} {H : Hp} {Q : VK} (h : Sem X.K XR (fun env w => (f env w).bind fun x e1 w1 => (g e1 w1).bind fun l e2 w2 => (k e2 w2).bind fun h e3 w3 => match dval e3 x with
    | some d => pick1 (slcD d l h) e3 w3
    | _ => .stuck) W σ H Q) : tSl (rSlc X.K) (Sem X.K XR f W) (SemO X.K XR g W) (SemO X.K XR k W) σ H Q := by
  obtain ⟨F, ow, env, w, R, h⟩ := h
  refine R.semE .refl h fun x H1 F1 ow1 a e1 w1 s01 _ R1 r1 h1 => ?_
  refine R1.semO s01 h1 fun l H2 F2 ow2 e2 w2 s02 s12 R2 h2 => ?_
  refine R2.semO s02 h2 fun u H3 F3 ow3 e3 w3 s03 s23 R3 h3 => ?_
  split at h3
  · rename_i d hd
    obtain ⟨z, hz, h4⟩ := pick1_ok h3
    exact ⟨F3, d, z, R3.sub, ((r1.step s12).step s23).dv R3 hd, hz, give_of s03 R3 h4⟩
  · exact h3.elim
theorem and_sem {f k : Mo EV} {σ : St} {H : Hp} {Q : VK} (h : Sem X.K XR (fun env w => (f env w).bind (andK k)) W σ H Q) : tAndV (Sem X.K XR f W) (Sem X.K XR k W) σ H Q := by
  obtain ⟨F, ow, env, w, R, h⟩ := h
  refine R.semE .refl h fun x H1 F1 ow1 a e1 w1 s01 _ R1 r1 h1 => ?_
  unfold andK at h1
  split at h1
  · cases (show Rp X.K F1 x (.bool true) from r1)
    refine ⟨true, rfl, ?_⟩
    rw [if_pos rfl]
    exact R1.semL s01 h1
  · cases (show Rp X.K F1 x (.bool false) from r1)
    refine ⟨false, rfl, ?_⟩
    rw [if_neg (by decide)]
    exact h1 _ _ _ _ s01 R1 (Rp.bl false)
  · exact h1.elim
theorem or_sem {f k : Mo EV} {σ : St} {H : Hp} {Q : VK} (h : Sem X.K XR (fun env w => (f env w).bind (orK k)) W σ H Q) : tOrV (Sem X.K XR f W) (Sem X.K XR k W) σ H Q := by
  obtain ⟨F, ow, env, w, R, h⟩ := h
  refine R.semE .refl h fun x H1 F1 ow1 a e1 w1 s01 _ R1 r1 h1 => ?_
  unfold orK at h1
  split at h1
  · cases (show Rp X.K F1 x (.bool false) from r1)
    refine ⟨false, rfl, ?_⟩
    rw [if_neg (by decide)]
    exact R1.semL s01 h1
  · cases (show Rp X.K F1 x (.bool true) from r1)
    refine ⟨true, rfl, ?_⟩
    rw [if_pos rfl]
    exact h1 _ _ _ _ s01 R1 (Rp.bl true)
  · exact h1.elim
theorem andT_sem {f k : Mo EV} {σ : St} {H : Hp} {Q : Bool → Hp → Prop} (h : SemT X.K XR (fun env w => tst ((f env w).bind (andK k))) W σ H Q) : tAnd (SemT X.K XR (fun env w => tst (f env w)) W) (SemT X.K XR (fun env w => tst (k env w)) W) σ H Q := by
  obtain ⟨F, ow, env, w, R, h⟩ := h
  dsimp only at h
  replace h := Eq.mp (congrArg (fun r => OutG X.K RYe XR F ow σ H r Q W) (tst_and (r := f env w) (k := k))) h
  refine R.semT (f := fun env w => tst (f env w)) .refl h fun c H1 F1 ow1 e1 w1 s01 _ R1 h1 => ?_
  by_cases q : c = true
  · rw [if_pos q] at h1 ⊢
    exact R1.semLT (f := fun env w => tst (k env w)) s01 h1
  · rw [if_neg q] at h1 ⊢
    exact h1 _ _ _ _ s01 R1 rfl
theorem orT_sem {f k : Mo EV} {σ : St} {H : Hp} {Q : Bool → Hp → Prop} (h : SemT X.K XR (fun env w => tst ((f env w).bind (orK k))) W σ H Q) : tOr (SemT X.K XR (fun env w => tst (f env w)) W) (SemT X.K XR (fun env w => tst (k env w)) W) σ H Q := by
  obtain ⟨F, ow, env, w, R, h⟩ := h
  dsimp only at h
  replace h := Eq.mp (congrArg (fun r => OutG X.K RYe XR F ow σ H r Q W) (tst_or (r := f env w) (k := k))) h
  refine R.semT (f := fun env w => tst (f env w)) .refl h fun c H1 F1 ow1 e1 w1 s01 _ R1 h1 => ?_
  by_cases q : c = true
  · rw [if_pos q] at h1 ⊢
    exact h1 _ _ _ _ s01 R1 rfl
  · rw [if_neg q] at h1 ⊢
    exact R1.semLT (f := fun env w => tst (k env w)) s01 h1
theorem notT_sem {f : Mo EV} {σ : St} {H : Hp} {Q : Bool → Hp → Prop} (h : SemT X.K XR (fun env w => tst ((f env w).bind fun v e1 w1 => match v with
    | .fz (.bool b) => .ok (.fz (.bool (!b))) e1 w1
    | _ => .stuck)) W σ H Q) : tNot (SemT X.K XR (fun env w => tst (f env w)) W) σ H Q := by
  obtain ⟨F, ow, env, w, R, h⟩ := h
  dsimp only at h
  replace h := Eq.mp (congrArg (fun r => OutG X.K RYe XR F ow σ H r Q W) (tst_not (r := f env w))) h
  refine R.semT (f := fun env w => tst (f env w)) .refl h fun c H1 F1 ow1 e1 w1 s01 _ R1 h1 => ?_
  exact h1 _ _ _ _ s01 R1 rfl
theorem not_sem {f : Mo EV} {σ : St} {H : Hp} {Q : VK} (h : Sem X.K XR (fun env w => (f env w).bind fun v e1 w1 => match v with
    | .fz (.bool b) => .ok (.fz (.bool (!b))) e1 w1
    | _ => .stuck) W σ H Q) : tNotV (Sem X.K XR f W) σ H Q := by
  obtain ⟨F, ow, env, w, R, h⟩ := h
  refine R.semE .refl h fun x H1 F1 ow1 a e1 w1 s01 _ R1 r1 h1 => ?_
  split at h1
  · rename_i b
    cases (show Rp X.K F1 x (.bool b) from r1)
    exact ⟨b, rfl, h1 _ _ _ _ s01 R1 (Rp.bl _)⟩
  · exact h1.elim
theorem neg_sem {f : Mo EV} {σ : St} {H : Hp} {Q : VK} (h : Sem X.K XR (fun env w => (f env w).bind fun x e1 w1 => match dval e1 x with
    | some (.int i) => .ok (.fz (.int (-i))) e1 w1
    | _ => .stuck) W σ H Q) : tUn (rU fun i => .int (-i)) (Sem X.K XR f W) σ H Q := by
  obtain ⟨F, ow, env, w, R, h⟩ := h
  refine R.semE .refl h fun x H1 F1 ow1 a e1 w1 s01 _ R1 r1 h1 => ?_
  split at h1
  · rename_i i hd
    exact ⟨i, (r1.dv R1 hd).int, h1 _ _ _ _ s01 R1 (Rp.int _)⟩
  · exact h1.elim
end
end DL

set_option Elab.async false
set_option linter.all false
set_option maxRecDepth 100000
set_option maxHeartbeats 4000000
set_option autoImplicit false
namespace DLE
open PySem PySem.Spec
open Sem (wp)
open AutoSeq1 (wpAny_loadPart')
/-! ### enumerate of a tuple -/
theorem meets_enumT (l : Addr) (items : Array Value) (n : Nat) (dct : Option Addr) (sl : Array (Option Value)) :
    Meets (Builtin.«enumerate.__new__» ⟨[.type "enumerate", .ref l], []⟩) (fun _ R s => s.heap.get? l = some ⟨.type "tuple", dct, .seq items n, sl⟩ ∧
      R (.ok (.ret (.ref (s.heap.push ⟨.type "tuple_iterator", none, .fields #[.ref l, .int 0 0], #[]⟩).objs.size)))
        { s with heap := (s.heap.push ⟨.type "tuple_iterator", none, .fields #[.ref l, .int 0 0], #[]⟩).push ⟨.type "enumerate", none, .fields #[.none, .bool false, .ref s.heap.objs.size, rawInt 0, .none, .none], #[]⟩ }) :=
  .of_wp fun prog w A R s q => by
    obtain ⟨hp, g, d, tk, os⟩ := s
    obtain ⟨hl, q⟩ := q
    have sb := sub_enumerate
    have hT : Heap.IsTuple (Shared.heap ⟨hp, g, d, tk, os⟩) l items := ⟨_, hl, rfl, n, rfl⟩
    wp_walk using wpAny_loadPart' hl
    refine wpAny_stack_any fun st => wpAny_pure ?_
    split
    · rename_i c _ _ _ _ _
      cases (c == Value.type "enumerate") <;>
      · wp_walk using wpAny_loadPart' hl, wpAny_pyIter_tuple hT
        exact ⟨_, rfl, q⟩
    · wp_walk using wpAny_loadPart' hl, wpAny_pyIter_tuple hT
      exact ⟨_, rfl, q⟩
section
variable {prog : Program} {w : World} {A : Around} {E : Value → Shared → Prop} {s : Shared}
theorem call_enumT {l : Addr} {items : Array Value} {Q : Value → Shared → Prop} (hT : s.heap.IsTuple l items)
    (q : ∀ h', IsEnum h' (s.heap.objs.size + 1) s.heap.objs.size 0 .none → h'.IsTupleIter s.heap.objs.size l 0 → h'.objs.size = s.heap.objs.size + 2 →
      (∀ b o, s.heap.get? b = some o → h'.get? b = some o) → Q (.ref (s.heap.objs.size + 1)) { s with heap := h' }) :
    wpAny (model prog w) A (call (.type "enumerate") [.ref l]) Q E s := by
  obtain ⟨⟨c, dct, dt, sl⟩, hl, hc, n, hd⟩ := hT
  obtain rfl : c = .type "tuple" := hc
  obtain rfl : dt = .seq items n := hd
  refine callType_new F.called_enumerate (by decide) (F.typeCall_enumerate_1 _) (F.newCall_enumerate_1 _) (fun obj => F.args_object_init_2 obj _) F.entry_enumerate_new
    (meets_enumT l items n dct sl) ⟨hl, ?_⟩
  have sz : (s.heap.push ⟨.type "tuple_iterator", none, .fields #[.ref l, .int 0 0], #[]⟩).objs.size = s.heap.objs.size + 1 := Heap.size_push ..
  show _ ∧ _
  rw [sz]
  have en : IsEnum ((s.heap.push ⟨.type "tuple_iterator", none, .fields #[.ref l, .int 0 0], #[]⟩).push ⟨.type "enumerate", none, .fields #[.none, .bool false, .ref s.heap.objs.size, rawInt 0, .none, .none], #[]⟩)
      (s.heap.objs.size + 1) s.heap.objs.size 0 .none := by
    have z := Heap.get?_push_size (s.heap.push ⟨.type "tuple_iterator", none, .fields #[.ref l, .int 0 0], #[]⟩) (o := ⟨.type "enumerate", none, .fields #[.none, .bool false, .ref s.heap.objs.size, rawInt 0, .none, .none], #[]⟩) rfl
    rw [sz] at z
    exact z
  exact ⟨⟨_, en, rfl⟩, q _ en ⟨_, Heap.get?_push_of_some _ (Heap.get?_push_size _ rfl), rfl, rfl⟩ (by rw [Heap.size_push, sz]) fun b o x => Heap.get?_push_of_some _ (Heap.get?_push_of_some _ x)⟩
end
end DLE
namespace DL
open PySem PySem.Spec L2
/-- the tuple at a, each item in a new pair -/
def Itet (K : PySem.W.Frag) (a : Addr) : L2.It :=
  ⟨fun i H => ∃ (xs : List V) (x : V), SqT K H a xs ∧ xs[i]? = some x, fun i H v H' => ∃ T x, v = .ref T ∧ H T = none ∧ H' = upd H T (.tup [.int (i : Nat), x]) ∧ ∀ xs, SqT K H a xs → xs[i]? = some x, fun i H => ∃ xs : List V, SqT K H a xs ∧ xs.length ≤ i⟩
theorem turn_enumT {P : Program} {w : World} {K : PySem.W.Frag} {elts : List Expr} {kk : Nat} {tpos : Pos} (a e it : Addr) :
    Turn P w K (.Tuple elts kk tpos) (Itet K a) [e, it] e (fun i h => (∃ old, IsEnum h e it ((i : Nat) : Int) old) ∧ h.IsTupleIter it a i ∧ e ≠ it ∧ a ≠ it ∧ a ≠ e) where
  mem := by simp
  obj := fun i h st b hb => by
    obtain ⟨⟨old, he⟩, ⟨o, ho, hc, hd⟩, _⟩ := st
    have z : b = e ∨ b = it := by simpa using hb
    rcases z with z | z
    · rw [z]; exact ⟨_, he, fun v q => nomatch q⟩
    · rw [z]; exact ⟨o, ho, fun v q => by rw [hd] at q; cases q⟩
  keep := fun i h h' st k => by
    obtain ⟨⟨old, he⟩, hi, r⟩ := st
    exact ⟨⟨old, k e (by simp) _ he⟩, hi.at fun o q => k it (by simp) o q, r⟩
  item := by
    intro X hP hw hK hc i pins s σ H E I hf st hg
    subst hP hw hK
    obtain ⟨⟨old, he⟩, hit, hne, ha1, ha2⟩ := st
    obtain ⟨xs, x, hq, hx⟩ := hg
    obtain ⟨its, rv, p, hz⟩ := I.tuple hq
    have hel : e < s.heap.objs.size := Heap.lt_size he
    have hil : it < s.heap.objs.size := by obtain ⟨_, q, _⟩ := hit; exact Heap.lt_size q
    have hsz : i < its.toArray.size := by
      have := rv.length
      have h1 := idx_lt hx
      simp only [List.size_toArray]
      omega
    have hA : X.A.in1.handled = none := I.ok.hd hc
    refine wpAny_pyNext_enum_itemD (Draws.tuple hA it a ha1 its.toArray) he ⟨hit, p⟩ hsz hne (by simp [hne, Ne.symm ha2]) fun u h' tk hu ho hst hT hs' hk => ?_
    obtain ⟨u', hu', ru⟩ := rv.get hx
    obtain rfl : u = u' := by
      have h1 : its.toArray[i]? = some u := hu
      rw [List.getElem?_toArray] at h1
      exact Option.some.inj (h1.symm.trans hu')
    refine ⟨_, rfl, wpAny_letOwnedTupleGo_enum (s := { s with heap := h', toks := tk + 1 }) ho fun h'' he' sb => ?_⟩
    have hT2 : h''.get? s.heap.objs.size = some { cls := .type "tuple", data := .seq #[.int i tk, u] } := (sb.2 _ (Nat.ne_of_gt hel)).trans hT
    have nw : ObjOk X.prog X.w (upd H s.heap.objs.size (.tup [.int (i : Nat), x])) h'' s.heap.objs.size (.tup [.int (i : Nat), x]) :=
      ⟨by show 2 ≤ sizeLine; decide, [.int i tk, u], .cons ⟨_, rfl⟩ (.cons ru .nil), ⟨_, hT2, rfl, _, rfl⟩⟩
    have I1 : Inv X pins σ (upd H s.heap.objs.size (.tup [.int (i : Nat), x])) { s with heap := h'', toks := tk + 1 } :=
      I.turnedNew (ch := [e, it]) (fun b ob hb q => (sb.2 b (fun z => hb (by simp [z]))).trans (hk b ob (fun z => hb (by simp [z])) (fun z => hb (by simp [z])) q)) hf (Nat.le_refl _) nw
    refine ⟨.ref s.heap.objs.size, _, I1, rfl, ⟨_, x, rfl, I.hok.fresh (Nat.le_refl _), rfl, fun ys hy => by rw [I.tuple_inj hy hq]; exact hx⟩, ⟨⟨u, ?_⟩, hst.1.at fun o q => (sb.2 it (Ne.symm hne)).trans q, hne, ha1, ha2⟩, fun b hb => ?_⟩
    · have e1 : ((i + 1 : Nat) : Int) = (i : Int) + 1 := by omega
      rw [e1]; exact he'
    · have hb' : b < s.heap.objs.size := by
        have z : b = e ∨ b = it := by simpa using hb
        rcases z with z | z
        · rw [z]; exact hel
        · rw [z]; exact hil
      rw [upd_ne (Nat.ne_of_lt hb')]
      exact (hf b hb).1
  done := by
    intro X hP hw hK hc i pins s σ H E I hf st hg
    subst hP hw hK
    obtain ⟨⟨old, he⟩, hit, hne, ha1, ha2⟩ := st
    obtain ⟨xs, hq, hx⟩ := hg
    obtain ⟨its, rv, p, hz⟩ := I.tuple hq
    obtain ⟨f0, f1, f2, f3, f4, f5⟩ := hf it (by simp)
    have hl := rv.length
    have hA : X.A.in1.handled = none := I.ok.hd hc
    have hb : its.toArray[i]? = none := by simp; omega
    have hT : s.TypeIs (.ref e) "enumerate" := ⟨_, he, rfl⟩
    have isub : isSubtype (.type "StopIteration") (.type "StopIteration") = pure true := isSubtype_stop
    unfold pyNext
    refine wpAny_bind (wpAny_attempt (wpAny_callSpecial?_slot (name := Str.ofString "__next__") hT F.slot_enumerate_next
      (wpAny_call_entry F.slot_enumerate_next hT F.entry_enumerate_next ?_ (F.args_enumerate_next_1 _))))
    show wpAny _ _ (field (.ref e) 2 >>= _) _ _ _
    refine wpAny_bind (wpAny_field he rfl (x := .ref it) rfl ?_)
    refine wpAny_bind (wpAny_nextOf_tuple_end hA hit (show s.heap.IsTuple a its.toArray from p) hb fun h' x he' hx' => ?_)
    obtain ⟨o, ho, hcl⟩ := hx'
    refine wpAny_bind (wpAny_isInstance (T := "StopIteration") (b := true) ⟨o, ho, hcl⟩ isub ?_)
    exact wpAny_pure ⟨rfl, I.turned (t' := s.toks) (fun b o hb q => he' b o hb q) f0 f1 f3 f4 f5⟩
  self := fun A i s Q E st h => by
    obtain ⟨⟨_, he⟩, _⟩ := st
    exact wpAny_pyIter_enum he h
end DL

set_option Elab.async false
set_option linter.all false
set_option maxRecDepth 100000
set_option maxHeartbeats 4000000
set_option autoImplicit false
namespace DL
open PySem PySem.Spec L2

section
variable {XR : XRT} {X : Cx} {cx : Cxt} {fn : Fns} {n : Nat} {W : WX} {tg : Expr}
/-! ### iterators -/
def iSeq (K : PySem.W.Frag) (tl : TE) : TI := fun σ H R => tl σ H fun x H1 => ∃ a, x = .ref a ∧ (((∃ xs, SqL K H1 a xs) ∧ R (Itl K a) H1) ∨ ((∃ xs, SqT K H1 a xs) ∧ R (Itt K a) H1))
theorem pi_seq {l : Expr} {tl : TE} (hl : PE X l tl) : PI X tg l (iSeq X.K tl) := by
  refine ⟨fun pins s σ H R I h => ?_⟩
  refine thn (hl.run pins s σ H _ I h) fun v s1 ⟨x, H1, I1, r1, a, e, q⟩ => ?_
  subst e
  cases r1
  have fp : ∀ b ∈ [s1.heap.objs.size], FpOk X pins H1 b := by
    intro b hb
    obtain rfl : b = s1.heap.objs.size := by simpa using hb
    exact I1.fpOk (Nat.le_refl _) (I1.hok.fresh (Nat.le_refl _))
  rcases q with ⟨⟨xs, hq⟩, q⟩ | ⟨⟨xs, hq⟩, q⟩
  · obtain ⟨its, rv, p, hz⟩ := I1.list hq
    exact wpAny_pyIter_list p.isList ⟨s1.heap.objs.size, [s1.heap.objs.size], _, _, H1, rfl, I1.kept (t' := s1.toks) fun b o e => Heap.get?_push_of_some _ e, turn_list a _, ⟨_, Heap.get?_push_size _ rfl, rfl, rfl⟩, fp, q⟩
  · obtain ⟨its, rv, p, hz⟩ := I1.tuple hq
    exact wpAny_pyIter_tuple (show s1.heap.IsTuple a its.toArray from p) ⟨s1.heap.objs.size, [s1.heap.objs.size], _, _, H1, rfl, I1.kept (t' := s1.toks) fun b o e => Heap.get?_push_of_some _ e, turn_tuple a _, ⟨_, Heap.get?_push_size _ rfl, rfl, rfl⟩, fp, q⟩
def iEnm (K : PySem.W.Frag) (tl : TE) : TI := fun σ H R => tl σ H fun x H1 => ∃ a, x = .ref a ∧ (((∃ xs, SqL K H1 a xs) ∧ R (Ite K a) H1) ∨ ((∃ xs, SqT K H1 a xs) ∧ R (Itet K a) H1))
theorem pi_enm {e : Expr} {te : TE} {p pos tpos : Pos} {elts : List Expr} {kk : Nat} (hg : Gl X "enumerate") (hm : X.mg "enumerate" = none) (ha : PE X e te) (hs : starEach [e] X.env = [(false, eval e X.env)]) :
    PI X (.Tuple elts kk tpos) (.Call (.Name "enumerate" p) [e] [] pos) (iEnm X.K te) := by
  refine ⟨fun pins s σ H R I h => ?_⟩
  refine PyProof.Rows.Call_ (ld_blt I hg hm PyProof.Rows.boot_enumerate (PyProof.Rows.callWith_type1 (one_arg ha I h (fun u s1 x H1 I1 ru q1 => ?_) hs) hs))
  · obtain ⟨a, rfl, q⟩ := q1
    cases ru
    have fp : ∀ b ∈ [s1.heap.objs.size + 1, s1.heap.objs.size], FpOk X pins H1 b := by
      intro b hb
      have z : b = s1.heap.objs.size + 1 ∨ b = s1.heap.objs.size := by simpa using hb
      have hle : s1.heap.objs.size ≤ b := by
        rcases z with z | z
        · rw [z]; exact Nat.le_add_right _ _
        · rw [z]; exact Nat.le_refl _
      exact I1.fpOk hle (I1.hok.fresh hle)
    rcases q with ⟨⟨xs, hq⟩, q⟩ | ⟨⟨xs, hq⟩, q⟩
    · obtain ⟨its, rv, p', hz⟩ := I1.list hq
      exact call_enumerate_list p'.isList fun h' he hit hsz hk => wpAny_pyIter_enum he ⟨s1.heap.objs.size + 1, [s1.heap.objs.size + 1, s1.heap.objs.size], _, _, H1, rfl, I1.kept (t' := s1.toks) hk, turn_enum a (s1.heap.objs.size + 1) s1.heap.objs.size, ⟨⟨.none, he⟩, hit, Nat.succ_ne_self _⟩, fp, q⟩
    · obtain ⟨its, rv, p', hz⟩ := I1.tuple hq
      have hlt : a < s1.heap.objs.size := by obtain ⟨o, ho, _⟩ := p'; exact Heap.lt_size ho
      exact DLE.call_enumT (show s1.heap.IsTuple a its.toArray from p') fun h' he hit hsz hk => wpAny_pyIter_enum he ⟨s1.heap.objs.size + 1, [s1.heap.objs.size + 1, s1.heap.objs.size], _, _, H1, rfl, I1.kept (t' := s1.toks) hk, turn_enumT a (s1.heap.objs.size + 1) s1.heap.objs.size, ⟨⟨.none, he⟩, hit, Nat.succ_ne_self _, Nat.ne_of_lt hlt, Nat.ne_of_lt (Nat.lt_succ_of_lt hlt)⟩, fp, q⟩

/-! ### what they tell -/
theorem enmL_get {ds : List PyData} {i : Nat} {d : PyData} (h : (enmL ds)[i]? = some d) : ∃ e, ds[i]? = some e ∧ d = .tuple [.int (i : Nat), e] := by
  unfold enmL at h
  rw [List.getElem?_map, List.getElem?_zipIdx] at h
  cases q : ds[i]? with
  | none => rw [q] at h; cases h
  | some e =>
    rw [q] at h
    simp at h
    exact ⟨e, rfl, h.symm⟩
theorem enmL_len {ds : List PyData} : (enmL ds).length = ds.length := by unfold enmL; simp
def LvL (K : PySem.W.Frag) (a : Addr) (ds : List PyData) : Hp → Hp → Prop := fun F H => ∃ vs, H a = some (.lst vs) ∧ RpAll K F vs ds
def LvT (K : PySem.W.Frag) (a : Addr) (ds : List PyData) : Hp → Hp → Prop := fun F H => ∃ vs, SqT K H a vs ∧ RpAll K F vs ds
theorem yld_list {K : PySem.W.Frag} {a : Addr} {ds : List PyData} : Yld K (Itl K a) (LvL K a ds) ds where
  go := fun i F H d ⟨vs, h1, h2⟩ hd => by
    obtain ⟨v, h3, h4⟩ := h2.get hd
    exact ⟨vs, v, SqL.of h1, h3⟩
  yld := fun i F H d x H' ⟨vs, h1, h2⟩ hd ⟨e, h⟩ => by
    subst e
    obtain ⟨v, h3, h4⟩ := h2.get hd
    have := h vs (SqL.of h1)
    obtain rfl : x = v := Option.some.inj (this.symm.trans h3)
    exact ⟨F, .old h4⟩
  stop := fun i F H ⟨vs, h1, h2⟩ hi => ⟨vs, SqL.of h1, by rw [h2.length]; exact hi⟩
theorem yld_tup {K : PySem.W.Frag} {a : Addr} {ds : List PyData} : Yld K (Itt K a) (LvT K a ds) ds where
  go := fun i F H d ⟨vs, h1, h2⟩ hd => by
    obtain ⟨v, h3, h4⟩ := h2.get hd
    exact ⟨vs, v, h1, h3⟩
  yld := fun i F H d x H' ⟨vs, h1, h2⟩ hd ⟨e, h⟩ => by
    subst e
    obtain ⟨v, h3, h4⟩ := h2.get hd
    have := h vs h1
    obtain rfl : x = v := Option.some.inj (this.symm.trans h3)
    exact ⟨F, .old h4⟩
  stop := fun i F H ⟨vs, h1, h2⟩ hi => ⟨vs, h1, by rw [h2.length]; exact hi⟩
theorem yld_enumL {K : PySem.W.Frag} {a : Addr} {ds : List PyData} : Yld K (Ite K a) (LvL K a ds) (enmL ds) where
  go := fun i F H d ⟨vs, h1, h2⟩ hd => by
    obtain ⟨e, he, _⟩ := enmL_get hd
    obtain ⟨v, h3, h4⟩ := h2.get he
    exact ⟨vs, v, SqL.of h1, h3⟩
  yld := fun i F H d x H' ⟨vs, h1, h2⟩ hd ⟨T, y, h3, h4, h5, h6⟩ => by
    subst h3 h5
    obtain ⟨e, he, rfl⟩ := enmL_get hd
    obtain ⟨v, h7, h8⟩ := h2.get he
    obtain rfl : y = v := Option.some.inj ((h6 vs (SqL.of h1)).symm.trans h7)
    exact ⟨_, .tup h4 (.cons (.int _) (.cons h8 .nil))⟩
  stop := fun i F H ⟨vs, h1, h2⟩ hi => ⟨vs, SqL.of h1, by rw [h2.length, ← enmL_len]; exact hi⟩
theorem yld_enumT {K : PySem.W.Frag} {a : Addr} {ds : List PyData} : Yld K (Itet K a) (LvT K a ds) (enmL ds) where
  go := fun i F H d ⟨vs, h1, h2⟩ hd => by
    obtain ⟨e, he, _⟩ := enmL_get hd
    obtain ⟨v, h3, h4⟩ := h2.get he
    exact ⟨vs, v, h1, h3⟩
  yld := fun i F H d x H' ⟨vs, h1, h2⟩ hd ⟨T, y, h3, h4, h5, h6⟩ => by
    subst h3 h5
    obtain ⟨e, he, rfl⟩ := enmL_get hd
    obtain ⟨v, h7, h8⟩ := h2.get he
    obtain rfl : y = v := Option.some.inj ((h6 vs h1).symm.trans h7)
    exact ⟨_, .tup h4 (.cons (.int _) (.cons h8 .nil))⟩
  stop := fun i F H ⟨vs, h1, h2⟩ hi => ⟨vs, h1, by rw [h2.length, ← enmL_len]; exact hi⟩
theorem rngL_get {lo : Int} {n i : Nat} {d : PyData} (h : (rngL lo n)[i]? = some d) : i < n ∧ d = .int (lo + i) := by
  unfold rngL at h
  rw [List.getElem?_map] at h
  cases q : (List.range n)[i]? with
  | none => rw [q] at h; cases h
  | some e =>
    rw [q] at h
    have := idx_lt q
    rw [List.length_range] at this
    rw [List.getElem?_range this] at q
    cases q
    simp at h
    exact ⟨this, h.symm⟩
theorem yld_rng {K : PySem.W.Frag} {lo : Int} {n : Nat} : Yld K (Itr lo n) (fun _ _ => True) (rngL lo n) where
  go := fun i F H d _ hd => (rngL_get hd).1
  yld := fun i F H d x H' _ hd ⟨e, h⟩ => by
    subst e h
    obtain ⟨_, rfl⟩ := rngL_get hd
    exact ⟨F, .old (.int _)⟩
  stop := fun i F H _ hi => by
    unfold rngL at hi
    have q : n ≤ i := by simpa using hi
    exact q
/-- what a value that is gone through is -/
theorem seqK_ok {K : PySem.W.Frag} {F F0 H H0 : Hp} {ow ow0 : Ow} {σ : St} {env env' : Nv} {w : Wd} {v : V} {x : EV} {f : List PyData → List PyData} {k : Ik} (s : Stp F0 ow0 H0 F ow H) (R : Rel K F ow σ H env w) (h : RV K H0 F ow σ H v x) (hk : seqK env x f = some (k, env')) :
    ∃ F' ow' a ds, Stp F0 ow0 H0 F' ow' H ∧ Rel K F' ow' σ H env' w ∧ v = .ref a ∧ k.items = f ds ∧
      (((∃ xs, SqL K H a xs) ∧ LvOk K σ F' k (LvL K a ds)) ∨ ((∃ xs, SqT K H a xs) ∧ LvOk K σ F' k (LvT K a ds))) := by
  have frozen : ∀ (x : EV), RV K H0 F ow σ H v x → (match esc1 env x with
      | some (.list ds, e2) => some ((⟨f ds, none, []⟩ : Ik), e2)
      | some (.tuple ds, e2) => some (⟨f ds, none, []⟩, e2)
      | _ => none) = some (k, env') → ∃ F' ow' a ds, Stp F0 ow0 H0 F' ow' H ∧ Rel K F' ow' σ H env' w ∧ v = .ref a ∧ k.items = f ds ∧
      (((∃ xs, SqL K H a xs) ∧ LvOk K σ F' k (LvL K a ds)) ∨ ((∃ xs, SqT K H a xs) ∧ LvOk K σ F' k (LvT K a ds))) := by
    intro x h hk
    split at hk
    · rename_i ds e2 he
      cases hk
      obtain ⟨F', ow', s', R', r', _⟩ := esc1_ok s R h.weak he
      cases r' with
      | lst q a =>
        exact ⟨F', ow', _, ds, s', R', rfl, rfl, .inl ⟨⟨_, SqL.of (R'.sub _ _ q)⟩, fun F'' H'' s1 s2 => ⟨_, s2 _ _ (s1 _ _ q), RpAll.mono s1 _ _ a⟩⟩⟩
    · rename_i ds e2 he
      cases hk
      obtain ⟨F', ow', s', R', r', _⟩ := esc1_ok s R h.weak he
      cases r' with
      | tup q a =>
        exact ⟨F', ow', _, ds, s', R', rfl, rfl, .inr ⟨⟨_, Same.seqT R'.sub q⟩, fun F'' H'' s1 s2 => ⟨_, Same.seqT (s1.trans s2) q, RpAll.mono s1 _ _ a⟩⟩⟩
    · cases hk
  cases x with
  | fz d => exact frozen _ h hk
  | lst ds => exact frozen _ h hk
  | src => exact frozen _ h hk
  | bor i =>
    simp only [seqK] at hk
    split at hk
    · rename_i ds he
      cases hk
      obtain ⟨v', e1, p, vs, e2, e3, e4, e5⟩ := R.slot i _ he
      subst e2
      obtain rfl : v = .ref p := Option.some.inj (Option.some.inj ((show σ[i]? = some (some v) from h).symm.trans e1))
      refine ⟨F, ow, p, ds, s, R, rfl, rfl, .inl ⟨⟨_, SqL.of e4⟩, ?_, ?_⟩⟩
      · intro F' ow' σ' H' env' w' R' hs he'
        obtain ⟨v2, q1, p2, vs2, rfl, q3, q4, q5⟩ := R'.slot i _ he'
        have q6 := hs _ q1
        obtain rfl : p2 = p := V.ref.inj (Option.some.inj (Option.some.inj (q6.symm.trans e1)))
        exact ⟨vs2, q4, q5⟩
      · intro F' ow' σ' H' env' w' R' hs he' F2 H2 t1 t2
        obtain ⟨v2, q1, q2⟩ := R'.slot i _ he'
        have q6 := hs _ q1
        obtain rfl : v2 = .ref p := Option.some.inj (Option.some.inj (q6.symm.trans e1))
        cases (show Rp K F' (.ref p) (.list ds) from q2) with
        | lst q3 q4 => exact ⟨_, t2 _ _ (t1 _ _ q3), RpAll.mono t1 _ _ q4⟩
    · cases hk
theorem seq_sem {f : Mo EV} {σ : St} {H : Hp} {R : L2.It → Hp → Prop} (h : SemI X.K XR (fun env w => (f env w).bind fun x e1 w1 => match seqK e1 x id with
    | some (k, e2) => .ok k e2 w1
    | none => .stuck) W σ H R) : iSeq X.K (Sem X.K XR f W) σ H R := by
  obtain ⟨F, ow, env, w, Rl, h⟩ := h
  refine Rl.semE .refl h fun x H1 F1 ow1 a e1 w1 s01 _ R1 r1 h1 => ?_
  split at h1
  · rename_i k e2 he
    obtain ⟨F', ow', p, ds, s', R', rfl, hi, q⟩ := seqK_ok s01 R1 r1 he
    refine ⟨p, rfl, ?_⟩
    rcases q with ⟨q1, q2⟩ | ⟨q1, q2⟩
    · exact .inl ⟨q1, h1 F' ow' H1 (Itl X.K p) s' R' ⟨_, by rw [hi]; exact yld_list, q2⟩⟩
    · exact .inr ⟨q1, h1 F' ow' H1 (Itt X.K p) s' R' ⟨_, by rw [hi]; exact yld_tup, q2⟩⟩
  · exact h1.elim
theorem enm_sem {f : Mo EV} {σ : St} {H : Hp} {R : L2.It → Hp → Prop} (h : SemI X.K XR (fun env w => (f env w).bind fun x e1 w1 => match seqK e1 x enmL with
    | some (k, e2) => .ok k e2 w1
    | none => .stuck) W σ H R) : iEnm X.K (Sem X.K XR f W) σ H R := by
  obtain ⟨F, ow, env, w, Rl, h⟩ := h
  refine Rl.semE .refl h fun x H1 F1 ow1 a e1 w1 s01 _ R1 r1 h1 => ?_
  split at h1
  · rename_i k e2 he
    obtain ⟨F', ow', p, ds, s', R', rfl, hi, q⟩ := seqK_ok s01 R1 r1 he
    refine ⟨p, rfl, ?_⟩
    rcases q with ⟨q1, q2⟩ | ⟨q1, q2⟩
    · exact .inl ⟨q1, h1 F' ow' H1 (Ite X.K p) s' R' ⟨_, by rw [hi]; exact yld_enumL, q2⟩⟩
    · exact .inr ⟨q1, h1 F' ow' H1 (Itet X.K p) s' R' ⟨_, by rw [hi]; exact yld_enumT, q2⟩⟩
  · exact h1.elim
theorem rng1_sem {f : Mo EV} {σ : St} {H : Hp} {R : L2.It → Hp → Prop} (h : SemI X.K XR (fun env w => (f env w).bind fun x e1 w1 => match x with
    | .fz (.int j) => if -(2 ^ 62) ≤ j ∧ j < 2 ^ 62 then .ok ⟨rngL 0 j.toNat, none, []⟩ e1 w1 else .stuck
    | _ => .stuck) W σ H R) : iRng1 (tCons (Sem X.K XR f W) tNil) σ H R := by
  obtain ⟨F, ow, env, w, Rl, h⟩ := h
  refine Rl.semE .refl h fun x H1 F1 ow1 a e1 w1 s01 _ R1 r1 h1 => ?_
  split at h1
  · rename_i j
    split at h1
    · rename_i hb
      cases (show Rp X.K F1 x (.int j) from r1)
      exact ⟨j, rfl, hb.1, hb.2, h1 F1 ow1 H1 _ s01 R1 ⟨_, yld_rng, fun _ _ _ _ => trivial⟩⟩
    · exact h1.elim
  · exact h1.elim
theorem rng2_sem {f g : Mo EV} {σ : St} {H : Hp} {R : L2.It → Hp → Prop} (h : SemI X.K XR (fun env w => (f env w).bind fun x e1 w1 => (g e1 w1).bind fun y e2 w2 => match x, y with
    | .fz (.int i), .fz (.int j) => if -(2 ^ 62) ≤ i ∧ i < 2 ^ 62 ∧ -(2 ^ 62) ≤ j ∧ j < 2 ^ 62 then .ok ⟨rngL i (j - i).toNat, none, []⟩ e2 w2 else .stuck
    | _, _ => .stuck) W σ H R) : iRng2 (tCons (Sem X.K XR f W) (tCons (Sem X.K XR g W) tNil)) σ H R := by
  obtain ⟨F, ow, env, w, Rl, h⟩ := h
  refine Rl.semE .refl h fun x H1 F1 ow1 a e1 w1 s01 _ R1 r1 h1 => ?_
  refine R1.semE s01 h1 fun y H2 F2 ow2 b e2 w2 s02 s12 R2 r2 h2 => ?_
  split at h2
  · rename_i i j
    split at h2
    · rename_i hb
      cases (show Rp X.K F1 x (.int i) from r1)
      cases (show Rp X.K F2 y (.int j) from r2)
      exact ⟨i, j, rfl, hb, h2 F2 ow2 H2 _ s02 R2 ⟨_, yld_rng, fun _ _ _ _ => trivial⟩⟩
    · exact h2.elim
  · exact h2.elim
end
end DL

set_option Elab.async false
set_option linter.all false
set_option maxRecDepth 100000
set_option maxHeartbeats 8000000
set_option autoImplicit false
namespace DL
open PySem PySem.Spec L2

theorem fold_plain {x : Expr} {env : Env} (h : okX x = true) (v : Value) : foldedSetIterable x env v = pure v := by
  cases x <;> first | rfl | (simp [okX] at h)
theorem bopB_eq {o : Bop} {p : Operator} (h : bopB o p = true) : p = bopOf o := by cases o <;> cases p <;> first | rfl | (simp [bopB] at h)
theorem copB_eq {o : Cop} {p : CmpOp} (h : copB o p = true) : p = copOf o := by cases o <;> cases p <;> first | rfl | (simp [copB] at h)
theorem marks_plain {op op2 : CmpOp} {b c : Expr} (h : okX c = true) : lastMarks [op, op2] [b, c] = false := by
  show behindInMarks op2 c = false
  exact mark_plain h
theorem chkI_ok {it : IE} {cx : Cxt} {t x : Expr} (h : chkI cx it t x = true) : okX x = true := by
  cases it with
  | seq e => exact chk_ok (by simpa [chkI] using h)
  | rng1 a => cases x <;> first | rfl | (simp [chkI] at h)
  | rng2 a b => cases x <;> first | rfl | (simp [chkI] at h)
  | enm a => cases x <;> first | rfl | (simp [chkI] at h)
  | zp a b => simp [chkI] at h
theorem bi_mem (b : Bi) : biName b ∈ bnames := by cases b <;> decide
theorem ty_mem (t : Ty) : tyName t ∈ bnames := by cases t <;> decide

section
variable {XR : XRT} {fn : Fns} {n : Nat}
mutual
theorem ev_ok : ∀ (e : E) (x : Expr) {X : Cx} {cx : Cxt} {W : WX}, chk cx e x = true → Fits XR X cx fn n → Takes X W → Both XR X x (ev fn e) W
  | .var i, x, X, cx, W, h, f, tk => by
    simp only [chk] at h
    obtain ⟨hp, y, p, rfl⟩ := slot_pe f h
    exact both (PE.sub hp fun σ H Q q => var_sem q)
  | .cI i, x, X, cx, W, h, f, tk => by
    simp only [chk] at h
    split at h
    · rename_i j k p
      obtain rfl : i = j := of_decide_eq_true h
      exact both (PE.sub pe_int fun σ H Q ⟨F, ow, env, w, R, q⟩ => q F ow H _ .refl R (Rp.int i))
    · cases h
  | .cS s, x, X, cx, W, h, f, tk => by
    simp only [chk] at h
    split at h
    · rename_i j k p
      obtain rfl : s = j := of_decide_eq_true h
      exact both (PE.sub pe_str fun σ H Q ⟨F, ow, env, w, R, q⟩ => q F ow H _ .refl R (Rp.str s))
    · cases h
  | .cN, x, X, cx, W, h, f, tk => by
    simp only [chk] at h
    unfold isNone at h
    split at h
    · exact both (PE.sub pe_non fun σ H Q ⟨F, ow, env, w, R, q⟩ => q F ow H _ .refl R Rp.non)
    · cases h
  | .cB b, x, X, cx, W, h, f, tk => by
    simp only [chk] at h
    split at h
    · rename_i j k p
      obtain rfl : b = j := by simpa using h
      exact both (PE.sub pe_bl fun σ H Q ⟨F, ow, env, w, R, q⟩ => q F ow H _ .refl R (Rp.bl b))
    · cases h
  | .neg a, x, X, cx, W, h, f, tk => by
    simp only [chk] at h
    split at h
    · rename_i y p
      exact both (PE.sub (pe_un un_neg (ev_ok a y h f tk).1) fun σ H Q q => neg_sem q)
    · cases h
  | .tup es, x, X, cx, W, h, f, tk => by
    simp only [chk] at h
    split at h
    · rename_i ys k p
      exact both (PE.sub (pe_tup (evs_ok es ys h f tk)) fun σ H Q q => tup_sem q)
    · cases h
  | .lst es, x, X, cx, W, h, f, tk => by
    simp only [chk] at h
    split at h
    · rename_i ys p
      exact both (PE.sub (pe_lst (evs_ok es ys h f tk)) fun σ H Q q => lst_sem q)
    · cases h
  | .bin op a b, x, X, cx, W, h, f, tk => by
    simp only [chk] at h
    split at h
    · rename_i y o z p
      simp only [Bool.and_eq_true] at h
      obtain rfl := bopB_eq h.1.1
      exact both (PE.sub (pe_op (ob_any op) (ev_ok a y h.1.2 f tk).1 (ev_ok b z h.2 f tk).1) fun σ H Q q => bin_sem q)
    · cases h
  | .cmp op a b, x, X, cx, W, h, f, tk => by
    simp only [chk] at h
    split at h
    · rename_i y o z p
      simp only [Bool.and_eq_true] at h
      obtain rfl := copB_eq h.1.1.1
      have ha := ev_ok a y h.1.1.2 f tk
      have hb := ev_ok b z h.1.2 f tk
      have hm : behindInMarks (copOf op) z = false := mark_plain (chk_ok h.1.2)
      exact bothC (pe_cmpR (oc_any f.un op) ha.1 hb.1 hm) (pt_cmpR (oc_any f.un op) ha.1 hb.1 hm) fun σ H Q q => bin_sem q
    · cases h
  | .chn op op2 a b c, x, X, cx, W, h, f, tk => by
    simp only [chk] at h
    split at h
    · rename_i y o o2 z u p
      simp only [Bool.and_eq_true] at h
      obtain rfl := copB_eq h.1.1.1.1.1.1
      obtain rfl := copB_eq h.1.1.1.1.1.2
      have ha := ev_ok a y h.1.1.1.1.2 f tk
      have hb := ev_ok b z h.1.1.1.2 f tk
      have hc := ev_ok c u h.1.1.2 f tk
      have hm : lastMarks [copOf op, copOf op2] [z, u] = false := marks_plain (chk_ok h.1.1.2)
      exact bothC (pe_chain (oc_any f.un op) (oc_any f.un op2) ha.1 hb.1 hc.1 hm) (pt_chain (oc_any f.un op) (oc_any f.un op2) ha.1 hb.1 hc.1 hm) fun σ H Q q => chn_sem q
    · cases h
  | .and es, x, X, cx, W, h, f, tk => by
    simp only [chk] at h
    split at h
    · rename_i ys p
      have q := evAnd_ok es ys p h f tk
      exact ⟨q.1, q.2.pt⟩
    · cases h
  | .or es, x, X, cx, W, h, f, tk => by
    simp only [chk] at h
    split at h
    · rename_i ys p
      have q := evOr_ok es ys p h f tk
      exact ⟨q.1, q.2.pt⟩
    · cases h
  | .not a, x, X, cx, W, h, f, tk => by
    simp only [chk] at h
    split at h
    · rename_i y p
      have q := ev_ok a y h f tk
      exact ⟨PE.sub (pe_not q.1) fun σ H Q q => not_sem q, PT.sub (pt_not q.2) fun σ H Q q => notT_sem q⟩
    · cases h
  | .ite t a b, x, X, cx, W, h, f, tk => by
    simp only [chk] at h
    split at h
    · rename_i y z u p
      simp only [Bool.and_eq_true] at h
      have qt := ev_ok t y h.1.1 f tk
      have qa := ev_ok a z h.1.2 f tk
      have qb := ev_ok b u h.2 f tk
      exact ⟨PE.sub (pe_ifExp qt.2 qa.1 qb.1) fun σ H Q q => ite_sem q, PT.sub (pt_ite qt.2 qa.2 qb.2) fun σ H Q q => iteT_sem q⟩
    · cases h
  | .sub a i, x, X, cx, W, h, f, tk => by
    simp only [chk] at h
    split at h
    · rename_i y z p
      simp only [Bool.and_eq_true] at h
      exact both (PE.sub (pe_ix ox_any (ev_ok a y h.1 f tk).1 (ev_ok i z h.2 f tk).1 (ix_plain (chk_ok h.2))) fun σ H Q q => bin_sem (o := subE) q)
    · cases h
  | .slc a lo hi, x, X, cx, W, h, f, tk => by
    simp only [chk] at h
    split at h
    · rename_i y l u p2 p
      simp only [Bool.and_eq_true] at h
      exact both (PE.sub (pe_slice os_any (ev_ok a y h.1.1 f tk).1 (evO_ok lo l h.1.2 f tk) (evO_ok hi u h.2 f tk)) fun σ H Q q => slc_sem q)
    · cases h
  | .rev a, x, X, cx, W, h, f, tk => by
    simp only [chk] at h
    split at h
    · exact both (PE.sub (pe_revL (ev_ok a _ h f tk).1) fun σ H Q q => un_sem (o := revD) q fun v H F d z sF hv hz g => by
        match d, hz, hv with
        | .list ds, hz, hv =>
          cases hz
          obtain ⟨p, vs, rfl, h1, h2⟩ := hv.lst
          exact ⟨p, vs, rfl, SqL.of h1, g.lst h2.reverse⟩)
    · cases h
  | .call g es, x, X, cx, W, h, f, tk => by
    simp only [chk] at h
    split at h
    · rename_i y p1 ys p
      simp only [Bool.and_eq_true, decide_eq_true_eq, Bool.not_eq_true'] at h
      obtain ⟨⟨⟨⟨h1, h2⟩, h3⟩, h4⟩, h5⟩ := h
      obtain ⟨a, fd, ps, m1, m2, m3, m4, m5⟩ := f.defs g y h1
      have ok := chks_ok h4
      have hA := evs_ok es ys h4 f tk
      cases ys with
      | nil => simp at h5
      | cons z zs =>
        exact both (PE.sub (pe_g m4 f.room f.gd (f.gl h2) m1 m2 m3 (fun σ => passAt tk σ) hA (odd_not h3).1 (star_plain (ok z (by simp))) (any_plain fun u hu => ok u (by simp [hu]))) fun σ H Q q => call_sem m5 q)
    · cases h
  | .bi b es, x, X, cx, W, h, f, tk => by
    simp only [chk] at h
    split at h
    · rename_i y p1 ys p
      simp only [Bool.and_eq_true, decide_eq_true_eq, Bool.not_eq_true'] at h
      obtain ⟨⟨⟨rfl, h2⟩, h4⟩, h5⟩ := h
      have ok := chks_ok h4
      have hA := evs_ok es ys h4 f tk
      cases ys with
      | nil => simp at h5
      | cons z zs =>
        have hb := bi_boot b
        have hc := bi_call f.calm f.gd f.un b
        have hs := star_plain (xs := zs) (env := X.env) (ok z (by simp))
        have hp : (backTo p (starEach zs X.env)).any (·.1) = false := any_plain fun u hu => ok u (by simp [hu])
        rcases bi_kind b with ⟨id, e⟩ | ⟨T, e⟩
        · rw [e] at hb hc
          exact both (PE.sub (pe_callB hc (f.gl h2) (f.bi _ (bi_mem b)) hb hA (bi_name b).1 (bi_name b).2 hs hp) fun σ H Q q => bi_sem q)
        · rw [e] at hb hc
          exact both (PE.sub (pe_callTy hc (f.gl h2) (f.bi _ (bi_mem b)) hb hA (bi_name b).1 (bi_name b).2 hs hp) fun σ H Q q => bi_sem q)
    · cases h
  | .isi a t, x, X, cx, W, h, f, tk => by
    simp only [chk] at h
    split at h
    · rename_i y p1 z u p2 p
      simp only [Bool.and_eq_true, decide_eq_true_eq] at h
      obtain ⟨⟨⟨⟨rfl, h2⟩, h3⟩, rfl⟩, h5⟩ := h
      have hT : PE X (.Name (tyName t) p2) (tC (tyV' t)) := pe_bltn (f.gl h5) (f.bi _ (ty_mem t)) (ty_boot t) (ty_rel t) (ty_name t).1 (ty_name t).2
      have hs := star_plain (xs := [.Name (tyName t) p2]) (env := X.env) (chk_ok h3)
      exact both (PE.sub (pe_callB (isi_call t) (f.gl h2) (f.bi _ (by decide)) PyProof.Rows.boot_isinstance (pa_cons (ev_ok a z h3 f tk).1 (pa_cons hT pa_nil) hs) (by decide) (by decide) hs) fun σ H Q q => isi_sem q)
    · cases h
  | .index a b, x, X, cx, W, h, f, tk => by simp [chk] at h
  | .pop i, x, X, cx, W, h, f, tk => by
    simp only [chk] at h
    split at h
    · rename_i o m ap p
      simp only [Bool.and_eq_true, decide_eq_true_eq] at h
      obtain ⟨⟨h1, rfl⟩, h3⟩ := h
      obtain ⟨hp, y, p', rfl⟩ := slot_pe f h1
      exact both (PE.sub (pe_bm0 PySem.F.plainAttrs_list PySem.F.slot_list_pop PySem.F.type_list_pop mt_pop hp rfl h3) fun σ H Q q => pop_sem q)
    · cases h
  | .popAt i a, x, X, cx, W, h, f, tk => by
    simp only [chk] at h
    split at h
    · rename_i o m ap z p
      simp only [Bool.and_eq_true, decide_eq_true_eq] at h
      obtain ⟨⟨⟨h1, rfl⟩, h2⟩, h3⟩ := h
      obtain ⟨hp, y, p', rfl⟩ := slot_pe f h1
      have hs := star_plain (xs := []) (env := X.env) (chk_ok h2)
      exact both (PE.sub (pe_bm PySem.F.plainAttrs_list PySem.F.slot_list_pop PySem.F.type_list_pop mt_popAt hp (pa_cons (ev_ok a z h2 f tk).1 pa_nil hs) rfl (by rw [hs]; rfl) h3 hs) fun σ H Q q => popAt_sem q)
    · cases h
  | .lc own tg it ifs elt, x, X, cx, W, h, f, tk => by
    simp only [chk] at h
    split at h
    · rename_i y t i c scope p
      simp only [Bool.and_eq_true, decide_eq_true_eq] at h
      obtain ⟨⟨⟨⟨⟨⟨h1, h2⟩, h3⟩, h4⟩, h5⟩, h6⟩, h7⟩ := h
      have hb : BlkOk X.N X.env.scope scope own := by rw [f.N, f.sc]; exact blkOk_by h1
      have hsl : ∀ j, j ∈ tg.sl → j ∈ own.map (·.2) := fun j hj => by
        have := List.all_eq_true.mp h3 j hj
        simpa using this
      refine both (PE.sub (pe_lc f.calm (by rw [f.N]; exact f.nd) (evI_ok it t i h2 f tk) hb (fun s H C cl fp => tg_ok (f.blk s H scope C cl fp) tg t h4)
        (fun s H C cl fp => evT_ok ifs c h5 h6 (f.blk s H scope C cl fp) takes0) (fun s H C cl fp => (ev_ok elt y h7 (f.blk s H scope C cl fp) takes0).1) (fold_plain (chkI_ok h2))) fun σ H Q q => lc_sem hsl q)
    · cases h
theorem evs_ok : ∀ (es : Es) (xs : List Expr) {X : Cx} {cx : Cxt} {W : WX}, chks cx es xs = true → Fits XR X cx fn n → Takes X W → PA X xs (SemA X.K XR (evs fn es) W)
  | .nil, [], X, cx, W, h, f, tk => PA.sub pa_nil fun σ H Q ⟨F, ow, env, w, R, q⟩ => q F ow H _ .refl R .nil
  | .nil, _ :: _, X, cx, W, h, f, tk => by simp [chks] at h
  | .cons e es, [], X, cx, W, h, f, tk => by simp [chks] at h
  | .cons e es, x :: xs, X, cx, W, h, f, tk => by
    simp only [chks, Bool.and_eq_true] at h
    refine PA.sub (pa_cons (ev_ok e x h.1 f tk).1 (evs_ok es xs h.2 f tk) (star_plain (chk_ok h.1))) fun σ H Q ⟨F, ow, env, w, R, q⟩ => ?_
    simp only [evs] at q
    refine R.semE .refl q fun v H1 F1 ow1 a e1 w1 s01 _ R1 r1 h1 => ?_
    refine R1.semA s01 h1 fun vs H2 F2 ow2 b e2 w2 s02 s12 R2 r2 h2 => ?_
    exact h2 F2 ow2 H2 _ s02 R2 (.cons (r1.step s12) (RVs.base s01 r2))
theorem evAnd_ok : ∀ (es : Es) (xs : List Expr) (p : Pos) {X : Cx} {cx : Cxt} {W : WX}, chks cx es xs = true → Fits XR X cx fn n → Takes X W → PE X (.BoolOp .And xs p) (Sem X.K XR (evAnd fn es) W) ∧ PW X (.BoolOp .And xs p) (SemT X.K XR (fun env w => tst (evAnd fn es env w)) W)
  | .nil, [], p, X, cx, W, h, f, tk => ⟨⟨fun pins s σ H Q I ⟨F, ow, env, w, R, q⟩ => by simp only [evAnd] at q; exact q.elim⟩, ⟨fun wh pins s σ H Q I ⟨F, ow, env, w, R, q⟩ => by simp only [evAnd] at q; exact q.elim⟩⟩
  | .nil, _ :: _, p, X, cx, W, h, f, tk => by simp [chks] at h
  | .cons e es, [], p, X, cx, W, h, f, tk => by simp [chks] at h
  | .cons e .nil, [x], p, X, cx, W, h, f, tk => by
    simp only [chks, Bool.and_eq_true] at h
    have q := ev_ok e x h.1 f tk
    exact ⟨pe_one q.1, pw_and1 q.2⟩
  | .cons e .nil, x :: y :: ys, p, X, cx, W, h, f, tk => by simp [chks] at h
  | .cons e (.cons e' r), [x], p, X, cx, W, h, f, tk => by simp [chks] at h
  | .cons e (.cons e' r), x :: y :: ys, p, X, cx, W, h, f, tk => by
    simp only [chks, Bool.and_eq_true] at h
    have q := ev_ok e x h.1 f tk
    have qr := evAnd_ok (.cons e' r) (y :: ys) p (by simp only [chks, Bool.and_eq_true]; exact h.2) f tk
    exact ⟨PE.sub (pe_and q.1 qr.1) fun σ H Q q => and_sem q, PW.sub (pw_and q.2 qr.2) fun σ H Q q => andT_sem q⟩
theorem evOr_ok : ∀ (es : Es) (xs : List Expr) (p : Pos) {X : Cx} {cx : Cxt} {W : WX}, chks cx es xs = true → Fits XR X cx fn n → Takes X W → PE X (.BoolOp .Or xs p) (Sem X.K XR (evOr fn es) W) ∧ PW X (.BoolOp .Or xs p) (SemT X.K XR (fun env w => tst (evOr fn es env w)) W)
  | .nil, [], p, X, cx, W, h, f, tk => ⟨⟨fun pins s σ H Q I ⟨F, ow, env, w, R, q⟩ => by simp only [evOr] at q; exact q.elim⟩, ⟨fun wh pins s σ H Q I ⟨F, ow, env, w, R, q⟩ => by simp only [evOr] at q; exact q.elim⟩⟩
  | .nil, _ :: _, p, X, cx, W, h, f, tk => by simp [chks] at h
  | .cons e es, [], p, X, cx, W, h, f, tk => by simp [chks] at h
  | .cons e .nil, [x], p, X, cx, W, h, f, tk => by
    simp only [chks, Bool.and_eq_true] at h
    have q := ev_ok e x h.1 f tk
    exact ⟨pe_one q.1, pw_or1 q.2⟩
  | .cons e .nil, x :: y :: ys, p, X, cx, W, h, f, tk => by simp [chks] at h
  | .cons e (.cons e' r), [x], p, X, cx, W, h, f, tk => by simp [chks] at h
  | .cons e (.cons e' r), x :: y :: ys, p, X, cx, W, h, f, tk => by
    simp only [chks, Bool.and_eq_true] at h
    have q := ev_ok e x h.1 f tk
    have qr := evOr_ok (.cons e' r) (y :: ys) p (by simp only [chks, Bool.and_eq_true]; exact h.2) f tk
    exact ⟨PE.sub (pe_or q.1 qr.1) fun σ H Q q => or_sem q, PW.sub (pw_or q.2 qr.2) fun σ H Q q => orT_sem q⟩
theorem evT_ok : ∀ (es : Es) (xs : List Expr) {X : Cx} {cx : Cxt} {W : WX}, chks cx es xs = true → xs.length ≤ 1 → Fits XR X cx fn n → Takes X W → PTs X xs (SemT X.K XR (evT fn es) W)
  | .nil, [], X, cx, W, h, hl, f, tk => PTs.sub pts_nil fun σ H Q ⟨F, ow, env, w, R, q⟩ => q F ow H _ .refl R rfl
  | .nil, _ :: _, X, cx, W, h, hl, f, tk => by simp [chks] at h
  | .cons e es, [], X, cx, W, h, hl, f, tk => by simp [chks] at h
  | .cons e .nil, [x], X, cx, W, h, hl, f, tk => by
    simp only [chks, Bool.and_eq_true] at h
    exact pts_one (ev_ok e x h.1 f tk).2
  | .cons e (.cons e' r), [x], X, cx, W, h, hl, f, tk => by simp [chks] at h
  | .cons e es, x :: y :: ys, X, cx, W, h, hl, f, tk => by simp at hl
theorem evO_ok : ∀ (o : OE) (x : Option Expr) {X : Cx} {cx : Cxt} {W : WX}, chkO cx o x = true → Fits XR X cx fn n → Takes X W → PO X x (SemO X.K XR (evO fn o) W)
  | .no, none, X, cx, W, h, f, tk => PO.sub po_none fun σ H Q ⟨F, ow, env, w, R, q⟩ => q F ow H _ .refl R rfl
  | .no, some _, X, cx, W, h, f, tk => by simp [chkO] at h
  | .yes e, none, X, cx, W, h, f, tk => by simp [chkO] at h
  | .yes e, some x, X, cx, W, h, f, tk => by
    simp only [chkO] at h
    refine PO.sub (po_some (ev_ok e x h f tk).1) fun σ H Q ⟨F, ow, env, w, R, q⟩ => ?_
    simp only [evO] at q
    refine R.semE .refl q fun v H1 F1 ow1 a e1 w1 s01 _ R1 r1 h1 => ?_
    split at h1
    · rename_i i
      cases (show Rp X.K F1 v (.int i) from r1)
      exact ⟨i, rfl, h1 F1 ow1 H1 _ s01 R1 rfl⟩
    · exact h1.elim
theorem evI_ok : ∀ (it : IE) (t x : Expr) {X : Cx} {cx : Cxt} {W : WX}, chkI cx it t x = true → Fits XR X cx fn n → Takes X W → PI X t x (SemI X.K XR (evI fn it) W)
  | .seq a, t, x, X, cx, W, h, f, tk => by
    simp only [chkI] at h
    exact PI.sub (pi_seq (ev_ok a x h f tk).1) fun σ H R q => seq_sem q
  | .rng1 a, t, x, X, cx, W, h, f, tk => by
    simp only [chkI] at h
    split at h
    · rename_i y p1 z p
      simp only [Bool.and_eq_true, decide_eq_true_eq] at h
      obtain ⟨⟨rfl, h2⟩, h3⟩ := h
      have hs := star_plain (xs := []) (env := X.env) (chk_ok h3)
      exact PI.sub (pi_range1 (f.gl h2) (f.bi _ (by decide)) (pa_cons (ev_ok a z h3 f tk).1 pa_nil hs) hs) fun σ H R q => rng1_sem q
    · cases h
  | .rng2 a b, t, x, X, cx, W, h, f, tk => by
    simp only [chkI] at h
    split at h
    · rename_i y p1 z u p
      simp only [Bool.and_eq_true, decide_eq_true_eq] at h
      obtain ⟨⟨⟨rfl, h2⟩, h3⟩, h4⟩ := h
      have hs2 := star_plain (xs := []) (env := X.env) (chk_ok h4)
      have hs := star_plain (xs := [u]) (env := X.env) (chk_ok h3)
      exact PI.sub (pi_range2 (f.gl h2) (f.bi _ (by decide)) (pa_cons (ev_ok a z h3 f tk).1 (pa_cons (ev_ok b u h4 f tk).1 pa_nil hs2) hs) (by rw [hs, hs2]; rfl) hs2) fun σ H R q => rng2_sem q
    · cases h
  | .enm a, t, x, X, cx, W, h, f, tk => by
    simp only [chkI] at h
    split at h
    · rename_i y p1 z p
      simp only [Bool.and_eq_true, decide_eq_true_eq] at h
      obtain ⟨⟨⟨rfl, h2⟩, h3⟩, h4⟩ := h
      have hs := star_plain (xs := []) (env := X.env) (chk_ok h3)
      unfold isTupE at h4
      split at h4
      · exact PI.sub (pi_enm (f.gl h2) (f.bi _ (by decide)) (ev_ok a z h3 f tk).1 hs) fun σ H R q => enm_sem q
      · cases h4
    · cases h
  | .zp a b, t, x, X, cx, W, h, f, tk => by simp [chkI] at h
end
end
end DL

set_option Elab.async false
set_option linter.all false
set_option maxRecDepth 100000
set_option maxHeartbeats 4000000
set_option autoImplicit false
namespace DL
open PySem PySem.Spec L2

/-- the entry of a def -/
structure En where
  F : Hp
  ow : Ow
  H : Hp
  σ : St
  fx : Nat → Bool
  hi : ∀ a t, ow a = some t → TT0 ≤ t
def En.Fix (e : En) (σ : St) : Prop := ∀ i, e.fx i = true → σ[i]? = e.σ[i]?
def En.At (K : PySem.W.Frag) (e : En) (F : Hp) (ow : Ow) (σ : St) (H : Hp) (env : Nv) (w : Wd) : Prop := Stp e.F e.ow e.H F ow H ∧ Rel K F ow σ H env w ∧ e.Fix σ
def OutS (K : PySem.W.Frag) (XR : XRT) (e : En) (Fb : Hp) (r : SR) (D : Ends) (W : WX) : Prop := match r with
  | .stuck => False
  | .nx env w => ∀ F ow σ H, Same Fb F → e.At K F ow σ H env w → D.nx σ H
  | .bk env w => ∀ F ow σ H, Same Fb F → e.At K F ow σ H env w → D.bk σ H
  | .ct env w => ∀ F ow σ H, Same Fb F → e.At K F ow σ H env w → D.ct σ H
  | .rt v w => ∀ F ow H u, Stp e.F e.ow e.H F ow H → Rel K F ow [] H [] w → RV K e.H F ow [] H u v → D.rt u H
  | .exc x env w => ∀ F ow σ H cls d, e.At K F ow σ H env w → XR F H x cls d → W cls d σ H
def SemS (K : PySem.W.Frag) (XR : XRT) (e : En) (f : Nv → Wd → SR) (W : WX) : L2.TS := fun D σ H => ∃ F ow env w, e.At K F ow σ H env w ∧ OutS K XR e F (f env w) D W

section
variable {K : PySem.W.Frag} {XR : XRT} {en : En} {F F' F0 F1 F2 : Hp} {ow ow' ow0 ow1 ow2 : Ow} {H H' H0 H1 H2 : Hp} {σ σ' : St} {env env' env1 env2 : Nv} {w w' w1 w2 : Wd} {W : WX} {D : Ends}

theorem En.At.go (a : en.At K F ow σ H env w) (s : Stp F ow H F' ow' H') (R : Rel K F' ow' σ H' env' w') : en.At K F' ow' σ H' env' w' := ⟨a.1.trans s, R, a.2.2⟩
theorem En.Fix.set {i : Nat} {v : Option V} (f : en.Fix σ) (h : en.fx i = false) : en.Fix (σ.set i v) := fun j hj => by
  rw [List.getElem?_set_ne (by intro e; subst e; rw [h] at hj; cases hj)]
  exact f j hj
theorem OutS.st {r : SR} (t : Same F F1) (h : OutS K XR en F r D W) : OutS K XR en F1 r D W := by
  cases r with
  | stuck => exact h
  | nx env w => exact fun F ow σ H t2 a => h F ow σ H (t.trans t2) a
  | bk env w => exact fun F ow σ H t2 a => h F ow σ H (t.trans t2) a
  | ct env w => exact fun F ow σ H t2 a => h F ow σ H (t.trans t2) a
  | rt v w => exact h
  | exc x env w => exact h
theorem OutS.seq {r : SR} {k : Nv → Wd → SR} (h : OutS K XR en F (r.seq k) D W) : OutS K XR en F r { D with nx := SemS K XR en k W D } W := by
  cases r with
  | stuck => exact h
  | nx env w => exact fun F1 ow σ H t a => ⟨F1, ow, env, w, a, OutS.st t h⟩
  | bk env w => exact h
  | ct env w => exact h
  | rt v w => exact h
  | exc x env w => exact h
theorem sq_sem {f g : Nv → Wd → SR} (h : SemS K XR en (fun env w => (f env w).seq g) W D σ H) : tSeq (SemS K XR en f W) (SemS K XR en g W) D σ H := by
  obtain ⟨F, ow, env, w, a, h⟩ := h
  exact ⟨F, ow, env, w, a, h.seq⟩
theorem OutS.toE {f : Mo EV} {k : EV → Nv → Wd → SR} {Q : VK} (a : en.At K F ow σ H env w) (h : OutS K XR en F ((f env w).toS k) D W)
    (m : ∀ v H1 F1 ow1 x e1 w1, Stp F ow H F1 ow1 H1 → en.At K F1 ow1 σ H1 e1 w1 → RV K H F1 ow1 σ H1 v x → OutS K XR en F1 (k x e1 w1) D W → Q v H1) : Sem K XR f W σ H Q := by
  refine ⟨F, ow, env, w, a.2.1, ?_⟩
  cases q : f env w with
  | stuck => rw [q] at h; exact h
  | ok x e1 w1 => rw [q] at h; exact fun F1 ow1 H1 v s R y => m v H1 F1 ow1 x e1 w1 s (a.go s R) y (OutS.st s.fz h)
  | exc x e1 w1 => rw [q] at h; exact fun F1 ow1 H1 cls d s R y => h F1 ow1 σ H1 cls d (a.go s R) y
theorem OutS.toT {f : Mo Bool} {k : Bool → Nv → Wd → SR} {Q : Bool → Hp → Prop} (a : en.At K F ow σ H env w) (h : OutS K XR en F ((f env w).toS k) D W)
    (m : ∀ v H1 F1 ow1 e1 w1, Same F F1 → en.At K F1 ow1 σ H1 e1 w1 → OutS K XR en F1 (k v e1 w1) D W → Q v H1) : SemT K XR f W σ H Q := by
  refine ⟨F, ow, env, w, a.2.1, ?_⟩
  cases q : f env w with
  | stuck => rw [q] at h; exact h
  | ok x e1 w1 => rw [q] at h; exact fun F1 ow1 H1 v s R y => by cases y; exact m x H1 F1 ow1 e1 w1 s.fz (a.go s R) (OutS.st s.fz h)
  | exc x e1 w1 => rw [q] at h; exact fun F1 ow1 H1 cls d s R y => h F1 ow1 σ H1 cls d (a.go s R) y
theorem OutS.toI {f : Mo Ik} {k : Ik → Nv → Wd → SR} {Q : L2.It → Hp → Prop} (a : en.At K F ow σ H env w) (h : OutS K XR en F ((f env w).toS k) D W)
    (m : ∀ v H1 F1 ow1 x e1 w1, Same F F1 → en.At K F1 ow1 σ H1 e1 w1 → YI K σ H F1 ow1 H1 v x → OutS K XR en F1 (k x e1 w1) D W → Q v H1) : SemI K XR f W σ H Q := by
  refine ⟨F, ow, env, w, a.2.1, ?_⟩
  cases q : f env w with
  | stuck => rw [q] at h; exact h
  | ok x e1 w1 => rw [q] at h; exact fun F1 ow1 H1 v s R y => m v H1 F1 ow1 x e1 w1 s.fz (a.go s R) y (OutS.st s.fz h)
  | exc x e1 w1 => rw [q] at h; exact fun F1 ow1 H1 cls d s R y => h F1 ow1 σ H1 cls d (a.go s R) y

/-! ### return -/
theorem ret_sem {f : Mo EV} (h : SemS K XR en (fun env w => (f env w).toS fun v e1 w1 => match retV e1 v with
    | some v => .rt v w1
    | none => .stuck) W D σ H) : tRet (Sem K XR f W) D σ H := by
  obtain ⟨F, ow, env, w, a, h⟩ := h
  refine OutS.toE a h fun v H1 F1 ow1 x e1 w1 s1 a1 r1 h1 => ?_
  split at h1
  · rename_i z hz
    have R1 := a1.2.1
    have st : Stp en.F en.ow en.H F1 (restr ow1) H1 := ⟨a1.1.fz, a1.1.fr, a1.1.nF, fun b q => a1.1.nO b (restr_ne q), fun b t q k => restr_some.mpr ⟨a1.1.tg b t q k, k⟩, a1.1.tr⟩
    refine h1 F1 (restr ow1) H1 v st R1.callee ?_
    cases x with
    | fz d => cases hz; exact r1
    | src =>
      cases hz
      obtain ⟨p, e, q⟩ := r1
      exact ⟨p, e, restr_some.mpr ⟨q, by decide⟩⟩
    | lst ds =>
      cases hz
      obtain ⟨p, vs, e, q0, q1, q2, q3, q4⟩ := r1
      exact ⟨p, vs, e, a.1.free q0, restr_none q1, q2, q3, q4⟩
    | bor i =>
      simp only [retV] at hz
      split at hz
      · rename_i ds he
        cases hz
        obtain ⟨v', e2, p, vs, e3, q1, q2, q3⟩ := R1.slot i _ he
        obtain rfl : v = v' := Option.some.inj (Option.some.inj ((show σ[i]? = some (some v) from r1).symm.trans e2))
        have hi := R1.slt he
        have hn : restr ow1 p = none := by
          unfold restr
          rw [q1]
          simp only
          rw [if_neg (by omega)]
        refine ⟨p, vs, e3, ?_, hn, R1.dis p (by rw [q1]; simp), q2, q3⟩
        rcases a1.1.nO p (by rw [q1]; simp) with z | z
        · cases q : en.ow p with
          | none => exact absurd q z
          | some t =>
            have := a1.1.tg p t q (en.hi p t q)
            rw [q1] at this
            cases this
            have := en.hi p i q
            omega
        · exact z
      · rename_i d he
        cases hz
        obtain ⟨v', e2, q1⟩ := R1.slot i _ he
        obtain rfl : v = v' := Option.some.inj (Option.some.inj ((show σ[i]? = some (some v) from r1).symm.trans e2))
        exact q1
      · cases hz
  · exact h1.elim

/-! ### stores -/
theorem setV_ok {v : V} {x : EV} {i : Nat} (a : en.At K F ow σ H env w) (s : Stp F0 ow0 H0 F ow H) (s0 : Stp en.F en.ow en.H F0 ow0 H0) (r : RV K H0 F ow σ H v x) (hf : en.fx i = false) (hv : setV env i x = some env') : ∃ F' ow', Same F F' ∧ en.At K F' ow' (σ.set i (some v)) H env' w := by
  have R := a.2.1
  have data : ∀ x : EV, RV K H0 F ow σ H v x → (match esc1 env x with
      | some (d, e1) => if i < e1.length then some (e1.set i (some (.fz d))) else none
      | none => none) = some env' → ∃ F' ow', Same F F' ∧ en.At K F' ow' (σ.set i (some v)) H env' w := by
    intro x r hv
    split at hv
    · rename_i d e1 he
      split at hv
      · cases hv
        obtain ⟨F', ow', s', R', r', l⟩ := esc1_ok s R r.weak he
        exact ⟨F', ow', l.s, s0.trans s', R'.setD r', a.2.2.set hf⟩
      · cases hv
    · cases hv
  cases x with
  | fz d => exact data _ r hv
  | bor j => exact data _ r hv
  | lst ds =>
    simp only [setV] at hv
    split at hv
    · rename_i hi
      cases hv
      obtain ⟨p, _, _, s', R'⟩ := R.setL s hi r
      exact ⟨F, _, Same.refl _, s0.trans s', R', a.2.2.set hf⟩
    · cases hv
  | src =>
    simp only [setV] at hv
    split at hv
    · cases hv
      obtain ⟨p, rfl, q⟩ := r
      exact ⟨F, ow, Same.refl _, a.1, R.setS q, a.2.2.set hf⟩
    · cases hv
theorem set_sem {i : Nat} {f : Mo EV} (hf : en.fx i = false) (h : SemS K XR en (fun env w => (f env w).toS fun v e1 w1 => goS (setV e1 i v) w1) W D σ H) : tAsg (Sem K XR f W) (gName i) D σ H := by
  obtain ⟨F, ow, env, w, a, h⟩ := h
  refine OutS.toE a h fun v H1 F1 ow1 x e1 w1 s1 a1 r1 h1 => ?_
  cases hz : setV e1 i x with
  | none => rw [hz] at h1; exact h1.elim
  | some e2 =>
    rw [hz] at h1
    obtain ⟨F', ow', t2, a2⟩ := setV_ok a1 s1 a.1 r1 hf hz
    exact h1 F' ow' _ H1 t2 a2
theorem asg_sem {tg : Tg} {f : Mo EV} (hf : ∀ i, i ∈ tg.sl → en.fx i = false) (h : SemS K XR en (fun env w => (f env w).toS fun v e1 w1 => match esc1 e1 v with
    | some (d, e2) => goS (asgT e2 tg d) w1
    | none => .stuck) W D σ H) : tAsg (Sem K XR f W) (gT K tg) D σ H := by
  obtain ⟨F, ow, env, w, a, h⟩ := h
  refine OutS.toE a h fun v H1 F1 ow1 x e1 w1 s1 a1 r1 h1 => ?_
  split at h1
  · rename_i d e2 he
    obtain ⟨F2, ow2, s2, R2, r2, l2⟩ := esc1_ok s1 a1.2.1 r1.weak he
    cases hz : asgT e2 tg d with
    | none => rw [hz] at h1; exact h1.elim
    | some e3 =>
      rw [hz] at h1
      refine gT_mono ?_ (asg_ok hz r2 R2)
      rintro σ2 H3 ⟨rfl, R3, l3, k3⟩
      refine h1 F2 ow2 σ2 H3 l2.s ⟨a.1.trans s2, R3, fun i hi => ?_⟩
      rw [k3 i (fun q => by rw [hf i q] at hi; cases hi)]
      exact a.2.2 i hi
  · exact h1.elim
theorem exp_sem {f : Mo EV} (h : SemS K XR en (fun env w => (f env w).toS fun _ e1 w1 => .nx e1 w1) W D σ H) : tDrop (Sem K XR f W) D σ H := by
  obtain ⟨F, ow, env, w, a, h⟩ := h
  exact OutS.toE a h fun v H1 F1 ow1 x e1 w1 s1 a1 r1 h1 => h1 F1 ow1 σ H1 (Same.refl _) a1
theorem app_sem {i : Nat} {f : Mo EV} (h : SemS K XR en (fun env w => match env[i]? with
    | some (some (.lst _)) => (f env w).toS fun v e1 w1 => appI i v e1 w1
    | _ => .stuck) W D σ H) : tDrop (tBM K "list" rAppend (tVar i) (tCons (Sem K XR f W) tNil)) D σ H := by
  obtain ⟨F, ow, env, w, a, h⟩ := h
  dsimp only at h
  split at h
  · rename_i ds0 he0
    obtain ⟨v0, e0, p0, vs0, rfl, hp0, hH0, ha0⟩ := a.2.1.slot i _ he0
    refine ⟨_, e0, .inl ⟨rfl, _, SqL.of hH0⟩, ?_⟩
    refine OutS.toE a h fun v H1 F1 ow1 x e1 w1 s1 a1 r1 h1 => ?_
    unfold appI at h1
    split at h1
    · rename_i d e2 he
      obtain ⟨F2, ow2, s2, R2, r2, l2⟩ := esc1_ok s1 a1.2.1 r1.weak he
      split at h1
      · rename_i ds hs
        split at h1
        · rename_i hlen
          obtain ⟨p, vs, q1, q2, q3, q4⟩ := R2.upL hs
          obtain rfl : p = p0 := V.ref.inj (Option.some.inj (Option.some.inj (q1.symm.trans e0)))
          obtain ⟨R3, s3⟩ := q4 (vs ++ [v]) (ds ++ [d]) (q3.append (.cons r2 .nil))
          refine ⟨p, vs, v, rfl, rfl, q2, by rw [q3.length]; exact hlen, ?_⟩
          exact h1 F2 ow2 σ _ l2.s ⟨(a.1.trans s2).trans s3, R3, a.2.2⟩
        · exact h1.elim
      · exact h1.elim
    · exact h1.elim
  · exact h.elim
theorem ife_sem {c : Mo Bool} {f g : Nv → Wd → SR} (h : SemS K XR en (fun env w => (c env w).toS fun k e1 w1 => if k = true then f e1 w1 else g e1 w1) W D σ H) : tIfS (SemT K XR c W) (SemS K XR en f W) (SemS K XR en g W) D σ H := by
  obtain ⟨F, ow, env, w, a, h⟩ := h
  refine OutS.toT a h fun k H1 F1 ow1 e1 w1 t1 a1 h1 => ?_
  by_cases q : k = true
  · rw [if_pos q] at h1 ⊢
    exact ⟨F1, ow1, e1, w1, a1, h1⟩
  · rw [if_neg q] at h1 ⊢
    exact ⟨F1, ow1, e1, w1, a1, h1⟩

/-! ### loops -/
theorem whl_sem {c : Mo Bool} {b : Nv → Wd → SR} (h : SemS K XR en (whS c b) W D σ H) : tWhile (SemT K XR c W) (SemS K XR en b W) D σ H := by
  obtain ⟨F, ow, env, w, a, h⟩ := h
  unfold whS at h
  split at h
  · rename_i hex
    refine ⟨fun m σ H => ∃ F ow env w, en.At K F ow σ H env w ∧ OutS K XR en F (whK c b m env w) D W, ⟨_, F, ow, env, w, a, h⟩, ?_⟩
    rintro m σ1 H1 ⟨F1, ow1, e1, w1, a1, h1⟩
    cases m with
    | zero => exact h1.elim
    | succ m =>
      simp only [whK] at h1
      refine OutS.toT a1 h1 fun k H2 F2 ow2 e2 w2 t2 a2 h2 => ?_
      by_cases q : k = true
      · rw [if_pos q] at h2 ⊢
        refine ⟨fun σ' H' => ∃ F ow env w, en.At K F ow σ' H' env w ∧ OutS K XR en F (whK c b m env w) D W, fun σ' H' z => ⟨m, Nat.lt_succ_self m, z⟩, F2, ow2, e2, w2, a2, ?_⟩
        revert h2
        cases b e2 w2 with
        | stuck => exact fun h => h
        | nx e3 w3 => exact fun h F3 ow3 σ3 H3 t3 a3 => ⟨F3, ow3, e3, w3, a3, OutS.st t3 h⟩
        | ct e3 w3 => exact fun h F3 ow3 σ3 H3 t3 a3 => ⟨F3, ow3, e3, w3, a3, OutS.st t3 h⟩
        | bk e3 w3 => exact fun h => h
        | rt v w3 => exact fun h => h
        | exc x e3 w3 => exact fun h => h
      · rw [if_neg q] at h2 ⊢
        exact h2 F2 ow2 σ1 H2 (Same.refl _) a2
  · exact h.elim
theorem for_sem {tg : Tg} {fit : Mo Ik} {b : Nv → Wd → SR} (hf : ∀ i, i ∈ tg.sl → en.fx i = false) (h : SemS K XR en (fun env w => (fit env w).toS fun k e1 w1 => match frzK k e1 with
    | some e2 => forGo tg b k.items e2 w1
    | none => .stuck) W D σ H) : tFor (SemI K XR fit W) (gT K tg) (SemS K XR en b W) D σ H := by
  obtain ⟨F, ow, env, w, a, h⟩ := h
  refine OutS.toI a h fun J H1 F1 ow1 k e1 w1 t1 a1 y1 h1 => ?_
  obtain ⟨Lv, Y, lo⟩ := y1
  have key : ∃ F2 ow2 e2, en.At K F2 ow2 σ H1 e2 w1 ∧ OutS K XR en F2 (forGo tg b k.items e2 w1) D W ∧ ∀ F' H', Same F2 F' → Same F' H' → Lv F' H' := by
    split at h1
    · rename_i e2 he
      unfold frzK at he
      unfold LvOk at lo
      split at he
      · rename_i q
        rw [q] at lo
        cases he
        exact ⟨F1, ow1, _, a1, h1, lo⟩
      · rename_i i q
        rw [q] at lo
        split at he
        · rename_i hs
          cases he
          obtain ⟨v, hv, _⟩ := a1.2.1.slot i _ hs
          obtain ⟨p, vs, rfl, hp, s2, R2, r2⟩ := a1.2.1.freeze hs hv
          refine ⟨_, _, _, a1.go s2 R2, OutS.st s2.fz h1, fun F' H' t1 t2 => lo.2 _ _ σ H1 _ w1 R2 (fun x z => z) ?_ F' H' t1 t2⟩
          rw [List.getElem?_set_self (idx_lt hs)]
        · cases he
    · exact h1.elim
  obtain ⟨F2, ow2, e2, a2, h2, lv⟩ := key
  refine ⟨fun i m σ' H' => m = k.items.length - i ∧ i ≤ k.items.length ∧ ∃ F' ow' env' w', en.At K F' ow' σ' H' env' w' ∧ Same F2 F' ∧ OutS K XR en F' (forGo tg b (k.items.drop i) env' w') D W, ⟨k.items.length, by simp, Nat.zero_le _, F2, ow2, e2, w1, a2, Same.refl _, by simpa using h2⟩, ?_⟩
  rintro i m σ1 H2 ⟨rfl, hi, F3, ow3, e3, w3, a3, t3, h3⟩
  have lv3 := lv F3 H2 t3 a3.2.1.sub
  by_cases hlt : i < k.items.length
  · right
    have hdr : k.items.drop i = k.items[i] :: k.items.drop (i + 1) := List.drop_eq_getElem_cons hlt
    have hd : k.items[i]? = some k.items[i] := List.getElem?_eq_getElem hlt
    rw [hdr] at h3
    simp only [forGo] at h3
    refine ⟨Y.go i F3 H2 _ lv3 hd, fun σ' H' => i + 1 ≤ k.items.length ∧ ∃ F' ow' env' w', en.At K F' ow' σ' H' env' w' ∧ Same F2 F' ∧ OutS K XR en F' (forGo tg b (k.items.drop (i + 1)) env' w') D W, fun σ' H' z => ⟨k.items.length - (i + 1), by omega, rfl, z⟩, fun x H3 hy => ?_⟩
    obtain ⟨F4, mk⟩ := Y.yld i F3 H2 _ x H3 lv3 hd hy
    obtain ⟨s4, R4, r4⟩ := mk.ok a3.2.1
    split at h3
    · exact h3.elim
    · rename_i e4 he
      refine gT_mono ?_ (asg_ok he r4 R4)
      rintro σ2 H4 ⟨rfl, R5, l5, k5⟩
      have fx5 : en.Fix σ2 := fun j hj => by
        rw [k5 j (fun q => by rw [hf j q] at hj; cases hj)]
        exact a3.2.2 j hj
      refine ⟨F4, ow3, e4, w3, ⟨a3.1.trans s4, R5, fx5⟩, ?_⟩
      have t4 : Same F2 F4 := t3.trans s4.fz
      replace h3 := OutS.st s4.fz h3
      revert h3
      cases hb : b e4 w3 with
      | stuck => exact fun h => h
      | nx e5 w5 => exact fun h F6 ow6 σ6 H6 t6 a6 => ⟨hlt, F6, ow6, e5, w5, a6, t4.trans t6, OutS.st t6 h⟩
      | ct e5 w5 => exact fun h F6 ow6 σ6 H6 t6 a6 => ⟨hlt, F6, ow6, e5, w5, a6, t4.trans t6, OutS.st t6 h⟩
      | bk e5 w5 => exact fun h => h
      | rt v w5 => exact fun h => h
      | exc x e5 w5 => exact fun h => h
  · left
    have hi' : k.items.length ≤ i := by omega
    rw [List.drop_eq_nil_of_le hi'] at h3
    exact ⟨Y.stop i F3 H2 lv3 hi', h3 F3 ow3 σ1 H2 (Same.refl _) a3⟩
end
end DL

set_option Elab.async false
set_option linter.all false
set_option maxRecDepth 100000
set_option maxHeartbeats 4000000
set_option autoImplicit false
namespace DL
open PySem PySem.Spec L2

section
variable {K : PySem.W.Frag} {XR : XRT} {en : En} {F F' F0 F1 F2 : Hp} {ow ow' ow0 ow1 ow2 : Ow} {H H' H0 H1 H2 : Hp} {σ σ' : St} {env env' env1 env2 : Nv} {w w' w1 w2 : Wd} {W : WX} {D : Ends}

/-! ### a, b = x, y -/
/-- a value at hand that stands in no slot; at: where its list is -/
def NB (K : PySem.W.Frag) (H0 F : Hp) (ow : Ow) (H : Hp) (v : V) : EV → Prop
  | .fz d => Rp K F v d
  | .bor _ => False
  | .lst ds => ∃ p vs, v = .ref p ∧ H0 p = none ∧ ow p = none ∧ F p = none ∧ H p = some (.lst vs) ∧ RpAll K F vs ds
  | .src => ∃ p, v = .ref p ∧ ow p = some TS
/-- lists at hand that are not the same -/
def Apart (v v' : V) (e e' : EV) : Prop := ∀ ds ds', e = .lst ds → e' = .lst ds' → v ≠ v'
theorem RW_nb {v : V} {x : EV} {env' : Nv} {x' : EV} (s : Stp F0 ow0 H0 F ow H) (R : Rel K F ow σ H env w) (r : RV K H0 F ow σ H v x) (hu : unbor env x = some (x', env')) :
    ∃ F' ow', Stp F0 ow0 H0 F' ow' H ∧ Rel K F' ow' σ H env' w ∧ NB K H0 F' ow' H v x' ∧ Stp F ow H F' ow' H ∧ (∀ ds, x' = .lst ds → x = .lst ds) := by
  cases x with
  | fz d => cases hu; exact ⟨F, ow, s, R, r, .refl, fun _ h => by cases h⟩
  | lst ds => cases hu; exact ⟨F, ow, s, R, r, .refl, fun _ h => h⟩
  | src => cases hu; exact ⟨F, ow, s, R, r, .refl, fun _ h => by cases h⟩
  | bor i =>
    simp only [unbor] at hu
    split at hu
    · rename_i d e1 he
      cases hu
      simp only [esc1] at he
      split at he
      · rename_i ds hs
        cases he
        obtain ⟨p, vs, rfl, hp, s1, R1, r1⟩ := R.freeze hs r
        exact ⟨_, _, s.trans s1, R1, r1, s1, fun _ h => by cases h⟩
      · rename_i d' hs
        cases he
        obtain ⟨v', e1, e2⟩ := R.slot i _ hs
        obtain rfl : v = v' := Option.some.inj (Option.some.inj ((show σ[i]? = some (some v) from r).symm.trans e1))
        exact ⟨F, ow, s, R, e2, .refl, fun _ h => by cases h⟩
      · cases he
    · cases hu
theorem NB.step {v : V} {e : EV} (h : NB K H0 F ow H v e) (s : Stp F ow H F1 ow1 H1) : NB K H0 F1 ow1 H1 v e := by
  cases e with
  | fz d => exact Rp.mono s.fz d v h
  | bor i => exact h
  | lst ds =>
    obtain ⟨p, vs, e, h0, h1, h2, h3, h4⟩ := h
    exact ⟨p, vs, e, h0, s.owN h1 h3, s.frN h2 h1 h3, s.fr p _ h1 h3, RpAll.mono s.fz ds vs h4⟩
  | src =>
    obtain ⟨p, e, h1⟩ := h
    exact ⟨p, e, s.tg p _ h1 (by decide)⟩
theorem NB.base {v : V} {e : EV} (s : Stp F ow H F1 ow1 H1) (h : NB K H1 F2 ow2 H2 v e) : NB K H F2 ow2 H2 v e := by
  cases e with
  | fz d => exact h
  | bor i => exact h
  | lst ds =>
    obtain ⟨p, vs, e, h0, h1, h2, h3, h4⟩ := h
    exact ⟨p, vs, e, s.free h0, h1, h2, h3, h4⟩
  | src => exact h
/-- a later list is another one -/
theorem nb_apart {v v' : V} {e e' : EV} (h : NB K H0 F ow H v e) (h' : NB K H F2 ow2 H2 v' e') : Apart v v' e e' := by
  rintro ds ds' rfl rfl rfl
  obtain ⟨p, vs, rfl, _, _, _, h3, _⟩ := h
  obtain ⟨p', vs', e, h0, _⟩ := h'
  cases e
  rw [h0] at h3
  cases h3
theorem put_ok {v : V} {e : EV} {i : Nat} (s : Stp F0 ow0 H0 F ow H) (R : Rel K F ow σ H env w) (r : NB K H0 F ow H v e) (hp : putV env i e = some env') :
    ∃ ow', Stp F0 ow0 H0 F ow' H ∧ Rel K F ow' (σ.set i (some v)) H env' w ∧ ∀ v' e', NB K H0 F ow H v' e' → Apart v v' e e' → NB K H0 F ow' H v' e' := by
  unfold putV at hp
  split at hp
  · rename_i hi
    cases hp
    cases e with
    | fz d => exact ⟨ow, s, R.setD r, fun v' e' h _ => h⟩
    | bor j => exact r.elim
    | src =>
      obtain ⟨p, rfl, q⟩ := r
      exact ⟨ow, s, R.setS q, fun v' e' h _ => h⟩
    | lst ds =>
      obtain ⟨p, vs, rfl, h0, h1, h2, h3, h4⟩ := r
      obtain ⟨p2, e2, _, s', R'⟩ := R.setL s hi (v := .ref p) ⟨p, vs, rfl, h0, h1, h2, h3, h4⟩
      cases e2
      refine ⟨_, s', R', fun v' e' h ap => ?_⟩
      cases e' with
      | fz d => exact h
      | bor j => exact h
      | lst ds' =>
        obtain ⟨p', vs', rfl, q0, q1, q2, q3, q4⟩ := h
        refine ⟨p', vs', rfl, q0, ?_, q2, q3, q4⟩
        unfold giveOw
        rw [if_neg (by intro z; subst z; exact ap ds ds' rfl rfl rfl)]
        exact q1
      | src =>
        obtain ⟨p', rfl, q⟩ := h
        refine ⟨p', rfl, ?_⟩
        unfold giveOw
        rw [if_neg (by intro z; subst z; rw [h1] at q; cases q)]
        exact q
  · cases hp
theorem RV.ofLst {v : V} {x x' : EV} (h : RV K H0 F ow σ H v x) (e : ∀ ds, x' = .lst ds → x = .lst ds) {ds : List PyData} (q : x' = .lst ds) : NB K H0 F ow H v x' := by
  have := e ds q
  subst q this
  exact h
theorem par_sem {i j : Nat} {f g : Mo EV} (hi : en.fx i = false) (hj : en.fx j = false) (h : SemS K XR en (fun env w => (f env w).toS fun x e1 w1 => (g e1 w1).toS fun y e2 w2 => parS i j x y e2 w2) W D σ H) :
    tPar i j (tCons (Sem K XR f W) (tCons (Sem K XR g W) tNil)) D σ H := by
  obtain ⟨F, ow, env, w, a, h⟩ := h
  refine OutS.toE a h fun v H1 F1 ow1 x e1 w1 s1 a1 r1 h1 => ?_
  refine OutS.toE a1 h1 fun u H2 F2 ow2 y e2 w2 s2 a2 r2 h2 => ?_
  refine ⟨v, u, rfl, ?_⟩
  unfold parS at h2
  split at h2
  · exact h2.elim
  · rename_i x' e3 hx
    split at h2
    · exact h2.elim
    · rename_i y' e4 hy
      split at h2
      · exact h2.elim
      · rename_i e5 hp
        cases hq : putV e5 j y' with
        | none => rw [hq] at h2; exact h2.elim
        | some e6 =>
          rw [hq] at h2
          obtain ⟨F3, ow3, s3, R3, n3, t3, k3⟩ := RW_nb (s1.trans s2) a2.2.1 (r1.step s2) hx
          obtain ⟨F4, ow4, s4, R4, n4, t4, k4⟩ := RW_nb (s2.trans t3) R3 (r2.step t3) hy
          have ap : Apart v u x' y' := by
            rintro ds ds' q q'
            have qx := k3 ds q
            have qy := k4 ds' q'
            subst qx qy
            exact nb_apart (K := K) (e := .lst ds) (e' := .lst ds') r1 r2 ds ds' rfl rfl
          obtain ⟨ow5, s5, R5, m5⟩ := put_ok (s3.trans t4) R4 (n3.step t4) hp
          obtain ⟨ow6, s6, R6, m6⟩ := put_ok s5 R5 (m5 u y' (NB.base s1 n4) ap) hq
          exact h2 F4 ow6 _ H2 (t3.fz.trans t4.fz) ⟨a.1.trans s6, R6, (a.2.2.set hi).set hj⟩
theorem par3_sem {i j l : Nat} {f g k : Mo EV} (hi : en.fx i = false) (hj : en.fx j = false) (hl : en.fx l = false) (h : SemS K XR en (fun env w => (f env w).toS fun x e1 w1 => (g e1 w1).toS fun y e2 w2 => (k e2 w2).toS fun z e3 w3 => parS3 i j l x y z e3 w3) W D σ H) :
    tPar3 i j l (tCons (Sem K XR f W) (tCons (Sem K XR g W) (tCons (Sem K XR k W) tNil))) D σ H := by
  obtain ⟨F, ow, env, w, a, h⟩ := h
  refine OutS.toE a h fun v H1 F1 ow1 x e1 w1 s1 a1 r1 h1 => ?_
  refine OutS.toE a1 h1 fun u H2 F2 ow2 y e2 w2 s2 a2 r2 h2 => ?_
  refine OutS.toE a2 h2 fun t H3 F3 ow3 z e3 w3 s3 a3 r3 h3 => ?_
  refine ⟨v, u, t, rfl, ?_⟩
  unfold parS3 at h3
  split at h3
  · exact h3.elim
  · rename_i x' e4 hx
    split at h3
    · exact h3.elim
    · rename_i y' e5 hy
      split at h3
      · exact h3.elim
      · rename_i z' e6 hz
        split at h3
        · exact h3.elim
        · rename_i e7 hp
          split at h3
          · exact h3.elim
          · rename_i e8 hq
            cases hr : putV e8 l z' with
            | none => rw [hr] at h3; exact h3.elim
            | some e9 =>
              rw [hr] at h3
              obtain ⟨F4, ow4, s4, R4, n4, t4, k4⟩ := RW_nb ((s1.trans s2).trans s3) a3.2.1 ((r1.step s2).step s3) hx
              obtain ⟨F5, ow5, s5, R5, n5, t5, k5⟩ := RW_nb ((s2.trans s3).trans t4) R4 ((r2.step s3).step t4) hy
              obtain ⟨F6, ow6, s6, R6, n6, t6, k6⟩ := RW_nb ((s3.trans t4).trans t5) R5 ((r3.step t4).step t5) hz
              have apvu : Apart v u x' y' := by
                rintro ds ds' q q'
                have qx := k4 ds q
                have qy := k5 ds' q'
                subst qx qy
                exact nb_apart (K := K) (e := .lst ds) (e' := .lst ds') r1 r2 ds ds' rfl rfl
              have apvt : Apart v t x' z' := by
                rintro ds ds' q q'
                have qx := k4 ds q
                have qy := k6 ds' q'
                subst qx qy
                exact nb_apart (K := K) (e := .lst ds) (e' := .lst ds') (r1.step s2) r3 ds ds' rfl rfl
              have aput : Apart u t y' z' := by
                rintro ds ds' q q'
                have qx := k5 ds q
                have qy := k6 ds' q'
                subst qx qy
                exact nb_apart (K := K) (e := .lst ds) (e' := .lst ds') r2 r3 ds ds' rfl rfl
              obtain ⟨ow7, s7, R7, m7⟩ := put_ok ((s4.trans t5).trans t6) R6 ((n4.step t5).step t6) hp
              have nu := NB.base s1 (n5.step t6)
              have nt := NB.base (s1.trans s2) n6
              obtain ⟨ow8, s8, R8, m8⟩ := put_ok s7 R7 (m7 u y' nu apvu) hq
              obtain ⟨ow9, s9, R9, m9⟩ := put_ok s8 R8 (m8 t z' (m7 t z' nt apvt) aput) hr
              exact h3 F6 ow9 _ H3 ((t4.fz.trans t5.fz).trans t6.fz) ⟨a.1.trans s9, R9, ((a.2.2.set hi).set hj).set hl⟩
end

/-! ### which stores are swapped -/
def parNames (sc : Scope) (ts : List Expr) : List Str := ts.filterMap fun e => match e with
  | .Name id pos => if sc.names.lookup id == some .local && pos.line == (ts.head?.map (·.pos.line)).getD 0 then some id else none
  | _ => none
def swS (sc : Scope) (ts vs : List Expr) : Option (Option (List Str)) :=
  if (!(ts.length == 2 || ts.length == 3) || vs.length != ts.length) = true then some none
  else if ((parNames sc ts).length != ts.length || (parNames sc ts).eraseDups.length != (parNames sc ts).length) = true then some none
  else if vs.all (foldedForSure 8) = true then some none
  else if vs.all (constantsAlone 8) = true then none
  else some (some (parNames sc ts))
theorem swS_ok {env : Env} {ts vs : List Expr} {k k2 : Nat} {p p2 : Pos} {r : Option (List Str)} (hk : env.scope.kind = .function) (hv : ∀ x, x ∈ vs → okX x = true) (h : swS env.scope ts vs = some r) :
    swappedStores [.Tuple ts k p] (.Tuple vs k2 p2) env = pure r := by
  have hb : env.blockKind = .function := by unfold Env.blockKind; rw [hk]; rfl
  have hst : (vs.any fun x => match x with | .Starred .. => true | _ => false) = false := by
    rw [List.any_eq_false]
    intro x hx
    have := hv x hx
    cases x <;> first | (simp [okX] at this; done) | simp
  have hn : (ts.filterMap fun e => match e with
      | .Name id pos => if env.kindOf id == some .local && pos.line == (ts.head?.map (·.pos.line)).getD 0 then some id else none
      | _ => none) = parNames env.scope ts := rfl
  unfold swS at h
  unfold swappedStores
  dsimp only
  split at h
  · rename_i c1
    cases h
    have c : (!(ts.length == 2 || ts.length == 3) || vs.length != ts.length || env.blockKind != .function) = true := by rw [c1]; rfl
    rw [if_pos c]
  · rename_i c1
    have c : ¬ (!(ts.length == 2 || ts.length == 3) || vs.length != ts.length || env.blockKind != .function) = true := by
      rw [Bool.not_eq_true] at c1
      rw [c1, hb]
      decide
    rw [if_neg c]
    refine (if_neg (fun e => by exact absurd (hst.symm.trans e) Bool.false_ne_true)).trans ?_
    split at h
    · rename_i c2
      cases h
      exact if_pos c2
    · rename_i c2
      refine (if_neg c2).trans ?_
      split at h
      · rename_i c3
        cases h
        exact if_pos c3
      · rename_i c3
        refine (if_neg c3).trans ?_
        split at h
        · cases h
        · rename_i c4
          cases h
          exact if_neg c4
end DL

set_option Elab.async false
set_option linter.all false
set_option maxRecDepth 100000
set_option maxHeartbeats 8000000
set_option autoImplicit false
namespace DL
open PySem PySem.Spec L2

def noLc : Expr → Bool
  | .ListComp _ _ _ _ => false
  | .SetComp _ _ _ _ => false
  | .DictComp _ _ _ _ _ => false
  | _ => true
def swLc (sc : Scope) (x : Str) (px vp : Pos) (scope : Scope) : Bool := (sc.names.lookup x == some .local) && (px.line == vp.line) && !(scope.names.any fun (n, k) => n == x && (k == .local || k == .cell))
def isCN : E → Bool
  | .cN => true
  | _ => false
def plainAsg (sc : Scope) (ts : List Expr) : Expr → Bool
  | .Tuple vs _ _ => match swS sc ts vs with
    | some none => true
    | _ => false
  | _ => true
def namesAt (cx : Cxt) (i : Nat) (x : Str) : Bool := decide (cx.N[i]? = some x) && !cx.fx i
mutual
def chkS (cx : Cxt) : S → Stmt → Bool
  | .asg tg e, s => match s with
    | .Assign [.Tuple ts k p] v _ => tgB cx tg (.Tuple ts k p) && chk cx e v && (tg.sl.all fun i => !cx.fx i) && plainAsg cx.sc ts v
    | _ => false
  | .set i e, s => match s with
    | .Assign [.Name x px] v _ => namesAt cx i x && locB cx x && chk cx e v
    | _ => false
  | .par i j a b, s => match s with
    | .Assign [.Tuple [.Name x px, .Name y py] kt pt] (.Tuple [u, v] k2 p2) _ => namesAt cx i x && namesAt cx j y && decide (i ≠ j) && isLocal cx.sc x && isLocal cx.sc y && chk cx a u && chk cx b v && decide (swS cx.sc [.Name x px, .Name y py] [u, v] = some (some [x, y]))
    | _ => false
  | .par3 i j l a b c, s => match s with
    | .Assign [.Tuple [.Name x px, .Name y py, .Name z pz] kt pt] (.Tuple [u, v, t] k2 p2) _ => namesAt cx i x && namesAt cx j y && namesAt cx l z && decide (i ≠ j) && decide (i ≠ l) && decide (j ≠ l) && isLocal cx.sc x && isLocal cx.sc y && isLocal cx.sc z && chk cx a u && chk cx b v && chk cx c t && decide (swS cx.sc [.Name x px, .Name y py, .Name z pz] [u, v, t] = some (some [x, y, z]))
    | _ => false
  | .exp e, s => match s with
    | .Expr v _ => chk cx e v && noLc v
    | _ => false
  | .app i e, s => match s with
    | .Expr (.Call (.Attribute o m ap) [x] [] p) _ => isSlot cx i o && decide (m = ("append" : Str)) && chk cx e x && ap.endLine == p.line
    | _ => false
  | .ext i e, s => false
  | .setIx i k e, s => false
  | .ret e, s => match s with
    | .Return (some v) _ => chk cx e v
    | .Return none _ => isCN e
    | _ => false
  | .ife t a b, s => match s with
    | .If c x y _ => chk cx t c && chkSl cx a x && chkSl cx b y
    | _ => false
  | .whl t b, s => match s with
    | .While c x [] _ => chk cx t c && chkSl cx b x
    | _ => false
  | .for_ tg it b, s => match s with
    | .For t i x [] _ => tgB cx tg t && chkI cx it t i && (tg.sl.all fun i => !cx.fx i) && chkSl cx b x
    | _ => false
  | .pas, s => match s with
    | .Pass _ => true
    | _ => false
  | .brk, s => match s with
    | .Break _ => true
    | _ => false
  | .cnt, s => match s with
    | .Continue _ => true
    | _ => false
  | .nev, s => true
def chkSl (cx : Cxt) : Sl → List Stmt → Bool
  | .nil, [] => true
  | .cons a r, s :: ss => chkS cx a s && chkSl cx r ss
  | _, _ => false
end

theorem PS.sub {X : Cx} {st : Stmt} {t t' : L2.TS} (h : PS X st t) (m : ∀ D σ H, t' D σ H → t D σ H) : PS X st t' := ⟨fun pins s σ H D I q => h.run pins s σ H D I (m D σ H q)⟩
theorem PSs.sub {X : Cx} {st : List Stmt} {t t' : L2.TS} (h : PSs X st t) (m : ∀ D σ H, t' D σ H → t D σ H) : PSs X st t' := ⟨fun pins s σ H D I q => h.run pins s σ H D I (m D σ H q)⟩
theorem noLc_sw {v : Expr} {t : Option Expr} {l : Nat} {env : Env} (h : noLc v = true) : swapsWith v t l env = pure false := by
  cases v <;> first | rfl | (simp [noLc] at h)
theorem tup_sw {v : Expr} {ts : List Expr} {k l : Nat} {p : Pos} {env : Env} : swapsWith v (some (.Tuple ts k p)) l env = pure false := by
  cases v <;> rfl
theorem tup_st {v : Expr} {ts : List Expr} {k : Nat} {p : Pos} {env : Env} (hk : env.scope.kind = .function) (hv : ∀ vs k p, v = .Tuple vs k p → ∀ x, x ∈ vs → okX x = true) (h : plainAsg env.scope ts v = true) : swappedStores [.Tuple ts k p] v env = pure none := by
  cases v <;> first | rfl | skip
  rename_i vs k2 p2
  simp only [plainAsg] at h
  split at h
  · rename_i e
    exact swS_ok hk (hv vs k2 p2 rfl) e
  · cases h
theorem sw_false {elt : Expr} {gs : List Comprehension} {scope : Scope} {pos py : Pos} {y : Str} {l : Nat} {env : Env} (hk : env.scope.kind = .function) (h : swLc env.scope y py pos scope = false) : swapsWith (.ListComp elt gs scope pos) (some (.Name y py)) l env = pure false := by
  have hb : env.blockKind = .function := by unfold Env.blockKind; rw [hk]; rfl
  unfold swapsWith
  have e : (env.blockKind == ScopeKind.function && env.kindOf y == some NameKind.local && py.line == (Expr.ListComp elt gs scope pos).pos.line && !(scope.names.any fun (n, k) => n == y && (k == .local || k == .cell))) = false := by
    rw [hb]
    exact h
  show pure _ = _
  first
    | (congr 1; exact e)
    | rw [e]
theorem sw_yes {elt : Expr} {gs : List Comprehension} {scope : Scope} {pos py : Pos} {y : Str} {l : Nat} {env : Env} (hk : env.scope.kind = .function) (h : swLc env.scope y py pos scope = true) : env.scope.names.lookup y = some .local ∧ swapsWith (.ListComp elt gs scope pos) (some (.Name y py)) l env = pure true := by
  unfold swLc at h
  simp only [Bool.and_eq_true, Bool.not_eq_true'] at h
  have h1 : env.scope.names.lookup y = some .local := by simpa using h.1.1
  exact ⟨h1, sw_true hk h1 h.1.2 h.2⟩
theorem chk_noLc {e : E} {cx : Cxt} {v : Expr} (h : chk cx e v = true) (hn : ∀ own tg it ifs elt, e ≠ .lc own tg it ifs elt) : noLc v = true := by
  cases v <;> first | rfl | skip
  all_goals (cases e <;> first | (simp [chk, isSlot, isNone] at h; done) | exact absurd rfl (hn _ _ _ _ _))
theorem chk_tup {e : E} {cx : Cxt} {v : Expr} (h : chk cx e v = true) : ∀ vs k p, v = .Tuple vs k p → ∀ x, x ∈ vs → okX x = true := by
  rintro vs k p rfl
  cases e <;> first | (simp [chk, isSlot, isNone] at h; done) | skip
  simp only [chk] at h
  exact chks_ok h
theorem isLocal_ok {sc : Scope} {x : Str} (h : isLocal sc x = true) : sc.names.lookup x = some .local := by
  unfold isLocal at h
  split at h
  · assumption
  · cases h

section
variable {XR : XRT} {fn : Fns} {n : Nat} {en : En}
theorem set_ok {X : Cx} {cx : Cxt} {W : WX} (k : X.env.scope.kind = .function) (f : Fits XR X cx fn n) (tk : Takes X W) {i : Nat} {e : E} {x : Str} {px p : Pos} {v : Expr} (hi : cx.N[i]? = some x) (hl : locB cx x = true) (hv : chk cx e v = true) (hx : en.fx i = false) :
    PS X (.Assign [.Name x px] v p) (SemS X.K XR en (xS fn (.set i e)) W) := by
  have q := f.loc hl
  have hN : X.N.Nodup := by rw [f.N]; exact f.nd
  have hi' : X.N[i]? = some x := by rw [f.N]; exact hi
  have gen : swapsWith v (some (.Name x px)) p.line X.env = pure false → PS X (.Assign [.Name x px] v p) (SemS X.K XR en (xS fn (.set i e)) W) := fun hs =>
    PS.sub (ps_set hN hi' q.1 (ev_ok e v hv f tk).1 hs q.2) fun D σ H h => set_sem hx h
  by_cases hlc : ∃ own tg it ifs elt, e = .lc own tg it ifs elt
  · obtain ⟨own, tg, it, ifs, elt, rfl⟩ := hlc
    have hv' := hv
    simp only [chk] at hv
    split at hv
    · rename_i y t i0 c scope p0
      simp only [Bool.and_eq_true, decide_eq_true_eq] at hv
      obtain ⟨⟨⟨⟨⟨⟨h1, h2⟩, h3⟩, h4⟩, h5⟩, h6⟩, h7⟩ := hv
      cases hsw : swLc X.env.scope x px p0 scope with
      | false => exact gen (sw_false k hsw)
      | true =>
        obtain ⟨hy, hs⟩ := sw_yes (elt := y) (gs := [⟨t, i0, c, 0⟩]) (l := p.line) k hsw
        have hb : BlkOk X.N X.env.scope scope own := by rw [f.N, f.sc]; exact blkOk_by h1
        have hsl : ∀ j, j ∈ tg.sl → j ∈ own.map (·.2) := fun j hj => by
          have := List.all_eq_true.mp h3 j hj
          simpa using this
        refine PS.sub (ps_setLc (g := gT X.K tg) (tt := SemT X.K XR (evT fn ifs) WF) (te := Sem X.K XR (ev fn elt) WF) f.calm hN hi' hy hs (evI_ok it t i0 h2 f tk) hb (fun s H C cl fp => tg_ok (f.blk s H scope C cl fp) tg t h4)
          (fun s H C cl fp => evT_ok ifs c h5 h6 (f.blk s H scope C cl fp) takes0) (fun s H C cl fp => (ev_ok elt y h7 (f.blk s H scope C cl fp) takes0).1) (fold_plain (chkI_ok h2))) fun D σ H q => ?_
        have q2 : tAsg (Sem X.K XR (ev fn (.lc own tg it ifs elt)) W) (gName i) D σ H := set_sem hx q
        exact lc_sem hsl q2
    · cases hv
  · refine gen (noLc_sw (chk_noLc hv fun own tg it ifs elt e => hlc ⟨own, tg, it, ifs, elt, e⟩))
mutual
theorem xS_ok : ∀ (s : S) (st : Stmt) {X : Cx} {cx : Cxt} {W : WX}, chkS cx s st = true → Fits XR X cx fn n → Takes X W → PassesOwn (model X.prog X.w) X.A X.env X.xe → X.env.scope.kind = .function → en.fx = cx.fx → PS X st (SemS X.K XR en (xS fn s) W)
  | .asg tg e, st, X, cx, W, h, f, tk, hp, hk, hx => by
    simp only [chkS] at h
    split at h
    · rename_i ts k p v p2
      simp only [Bool.and_eq_true] at h
      obtain ⟨⟨⟨h1, h2⟩, h3⟩, h4⟩ := h
      have hs : ∀ i, i ∈ tg.sl → en.fx i = false := fun i hi => by
        have := List.all_eq_true.mp h3 i hi
        rw [hx]
        simpa using this
      exact PS.sub (ps_asg (ev_ok e v h2 f tk).1 (tg_ok f tg _ h1) (show swapsWith v (some (.Tuple ts k p)) p2.line X.env = pure false from tup_sw) (tup_st hk (chk_tup h2) (by rw [f.sc]; exact h4)) rfl) fun D σ H q => asg_sem hs q
    · cases h
  | .set i e, st, X, cx, W, h, f, tk, hp, hk, hx => by
    simp only [chkS] at h
    split at h
    · simp only [namesAt, Bool.and_eq_true, decide_eq_true_eq, Bool.not_eq_true'] at h
      obtain ⟨⟨⟨h1, h2⟩, h3⟩, h4⟩ := h
      exact set_ok hk f tk h1 h3 h4 (by rw [hx]; exact h2)
    · cases h
  | .par i j a b, st, X, cx, W, h, f, tk, hp, hk, hx => by
    simp only [chkS] at h
    split at h
    · rename_i x px y py kt pt u v k2 p2 p3
      simp only [namesAt, Bool.and_eq_true, decide_eq_true_eq, Bool.not_eq_true'] at h
      obtain ⟨⟨⟨⟨⟨⟨⟨h1, h2⟩, h3⟩, h4⟩, h5⟩, h6⟩, h7⟩, h8⟩ := h
      have ok1 := chk_ok h6
      have ok2 := chk_ok h7
      have hA : PA X [u, v] (tCons _ (tCons _ tNil)) := pa_cons (ev_ok a u h6 f tk).1 (pa_cons (ev_ok b v h7 f tk).1 pa_nil (star_plain ok2)) (star_plain ok1)
      have hw := swS_ok (env := X.env) (k := kt) (k2 := k2) (p := pt) (p2 := p2) hk (vs := [u, v]) (fun z hz => by
        rcases List.mem_cons.mp hz with rfl | hz
        · exact ok1
        · rcases List.mem_cons.mp hz with rfl | hz
          · exact ok2
          · simp at hz) (by rw [f.sc]; exact h8)
      exact PS.sub (ps_par f.calm (by rw [f.N]; exact f.nd) (by rw [f.N]; exact h1.1) (by rw [f.N]; exact h2.1) h3 (by rw [f.sc]; exact isLocal_ok h4) (by rw [f.sc]; exact isLocal_ok h5) hA hw) fun D σ H q =>
        par_sem (by rw [hx]; exact h1.2) (by rw [hx]; exact h2.2) q
    · cases h
  | .par3 i j l a b c, st, X, cx, W, h, f, tk, hp, hk, hx => by
    simp only [chkS] at h
    split at h
    · rename_i x px y py z pz kt pt u v t k2 p2 p3
      simp only [namesAt, Bool.and_eq_true, decide_eq_true_eq, Bool.not_eq_true'] at h
      obtain ⟨⟨⟨⟨⟨⟨⟨⟨⟨⟨⟨⟨h1, h2⟩, h3⟩, h4⟩, h5⟩, h6⟩, h7⟩, h8⟩, h9⟩, ha⟩, hb⟩, hc⟩, hd⟩ := h
      have ok1 := chk_ok ha
      have ok2 := chk_ok hb
      have ok3 := chk_ok hc
      have hA : PA X [u, v, t] (tCons _ (tCons _ (tCons _ tNil))) := pa_cons (ev_ok a u ha f tk).1 (pa_cons (ev_ok b v hb f tk).1 (pa_cons (ev_ok c t hc f tk).1 pa_nil (star_plain ok3)) (star_plain ok2)) (star_plain ok1)
      have hw := swS_ok (env := X.env) (k := kt) (k2 := k2) (p := pt) (p2 := p2) hk (vs := [u, v, t]) (fun z hz => by
        rcases List.mem_cons.mp hz with rfl | hz
        · exact ok1
        · rcases List.mem_cons.mp hz with rfl | hz
          · exact ok2
          · rcases List.mem_cons.mp hz with rfl | hz
            · exact ok3
            · simp at hz) (by rw [f.sc]; exact hd)
      exact PS.sub (ps_par3 f.calm (by rw [f.N]; exact f.nd) (by rw [f.N]; exact h1.1) (by rw [f.N]; exact h2.1) (by rw [f.N]; exact h3.1) h4 h5 h6 (by rw [f.sc]; exact isLocal_ok h7) (by rw [f.sc]; exact isLocal_ok h8) (by rw [f.sc]; exact isLocal_ok h9) hA hw) fun D σ H q =>
        par3_sem (by rw [hx]; exact h1.2) (by rw [hx]; exact h2.2) (by rw [hx]; exact h3.2) q
    · cases h
  | .exp e, st, X, cx, W, h, f, tk, hp, hk, hx => by
    simp only [chkS] at h
    split at h
    · simp only [Bool.and_eq_true] at h
      exact PS.sub (ps_expr (ev_ok e _ h.1 f tk).1 (noLc_sw h.2)) fun D σ H q => exp_sem q
    · cases h
  | .app i e, st, X, cx, W, h, f, tk, hp, hk, hx => by
    simp only [chkS] at h
    split at h
    · rename_i o m ap x p p2
      simp only [Bool.and_eq_true, decide_eq_true_eq] at h
      obtain ⟨⟨⟨h1, rfl⟩, h2⟩, h3⟩ := h
      obtain ⟨hv, y, p', rfl⟩ := slot_pe f h1
      have hs := star_plain (xs := []) (env := X.env) (chk_ok h2)
      exact PS.sub (ps_expr (pe_bm PySem.F.plainAttrs_list PySem.F.slot_list_append PySem.F.type_list_append mt_append hv (pa_cons (ev_ok e x h2 f tk).1 pa_nil hs) rfl (by rw [hs]; rfl) h3 hs) rfl) fun D σ H q => app_sem q
    · cases h
  | .ext i e, st, X, cx, W, h, f, tk, hp, hk, hx => by simp [chkS] at h
  | .setIx i k e, st, X, cx, W, h, f, tk, hp, hk, hx => by simp [chkS] at h
  | .ret e, st, X, cx, W, h, f, tk, hp, hk, hx => by
    simp only [chkS] at h
    split at h
    · exact PS.sub (ps_ret (ev_ok e _ h f tk).1) fun D σ H q => ret_sem q
    · cases e <;> first | (simp [isCN] at h; done) | skip
      refine PS.sub ps_retN fun D σ H q => ?_
      have q2 := ret_sem (f := ev fn .cN) q
      obtain ⟨F, ow, env, w, R, q3⟩ := q2
      exact q3 F ow H .non .refl R Rp.non
    · cases h
  | .ife t a b, st, X, cx, W, h, f, tk, hp, hk, hx => by
    simp only [chkS] at h
    split at h
    · simp only [Bool.and_eq_true] at h
      exact PS.sub (ps_if (ev_ok t _ h.1.1 f tk).2 (xsl_ok a _ h.1.2 f tk hp hk hx) (xsl_ok b _ h.2 f tk hp hk hx)) fun D σ H q => ife_sem q
    · cases h
  | .whl t b, st, X, cx, W, h, f, tk, hp, hk, hx => by
    simp only [chkS] at h
    split at h
    · simp only [Bool.and_eq_true] at h
      exact PS.sub (ps_while hp (ev_ok t _ h.1 f tk).2 (xsl_ok b _ h.2 f tk hp hk hx)) fun D σ H q => whl_sem q
    · cases h
  | .for_ tg it b, st, X, cx, W, h, f, tk, hp, hk, hx => by
    simp only [chkS] at h
    split at h
    · simp only [Bool.and_eq_true] at h
      obtain ⟨⟨⟨h1, h2⟩, h3⟩, h4⟩ := h
      have hs : ∀ i, i ∈ tg.sl → en.fx i = false := fun i hi => by
        have := List.all_eq_true.mp h3 i hi
        rw [hx]
        simpa using this
      exact PS.sub (ps_for hp f.calm (evI_ok it _ _ h2 f tk) (tg_ok f tg _ h1) (xsl_ok b _ h4 f tk hp hk hx) (fold_plain (chkI_ok h2))) fun D σ H q => for_sem hs q
    · cases h
  | .pas, st, X, cx, W, h, f, tk, hp, hk, hx => by
    simp only [chkS] at h
    split at h
    · exact PS.sub ps_pass fun D σ H ⟨F, ow, env, w, a, q⟩ => q F ow σ H (Same.refl _) a
    · cases h
  | .brk, st, X, cx, W, h, f, tk, hp, hk, hx => by
    simp only [chkS] at h
    split at h
    · exact PS.sub ps_break fun D σ H ⟨F, ow, env, w, a, q⟩ => q F ow σ H (Same.refl _) a
    · cases h
  | .cnt, st, X, cx, W, h, f, tk, hp, hk, hx => by
    simp only [chkS] at h
    split at h
    · exact PS.sub ps_continue fun D σ H ⟨F, ow, env, w, a, q⟩ => q F ow σ H (Same.refl _) a
    · cases h
  | .nev, st, X, cx, W, h, f, tk, hp, hk, hx => PS.sub ps_never fun D σ H ⟨F, ow, env, w, a, q⟩ => q
theorem xsl_ok : ∀ (s : Sl) (st : List Stmt) {X : Cx} {cx : Cxt} {W : WX}, chkSl cx s st = true → Fits XR X cx fn n → Takes X W → PassesOwn (model X.prog X.w) X.A X.env X.xe → X.env.scope.kind = .function → en.fx = cx.fx → PSs X st (SemS X.K XR en (xsl fn s) W)
  | .nil, [], X, cx, W, h, f, tk, hp, hk, hx => PSs.sub pss_nil fun D σ H ⟨F, ow, env, w, a, q⟩ => q F ow σ H (Same.refl _) a
  | .nil, _ :: _, X, cx, W, h, f, tk, hp, hk, hx => by simp [chkSl] at h
  | .cons _ _, [], X, cx, W, h, f, tk, hp, hk, hx => by simp [chkSl] at h
  | .cons s r, st :: sts, X, cx, W, h, f, tk, hp, hk, hx => by
    simp only [chkSl, Bool.and_eq_true] at h
    exact PSs.sub (pss_cons (xS_ok s st h.1 f tk hp hk hx) (xsl_ok r sts h.2 f tk hp hk hx)) fun D σ H q => sq_sem q
end
end
end DL

set_option Elab.async false
set_option linter.all false
set_option maxRecDepth 100000
set_option maxHeartbeats 4000000
set_option autoImplicit false
namespace DL
open PySem PySem.Spec L2

/-! ### defs -/
def argE (nn : Nat) (as : List EV) : Nv := as.map some ++ List.replicate (nn - as.length) none
def argOk : EV → Bool
  | .fz _ => true
  | .src => true
  | _ => false
/-- what a def's body does -/
noncomputable def runB (fn : Fns) (np nn : Nat) (b : Sl) : List EV → Wd → CRes := fun as w =>
  if as.length = np ∧ nn ≤ TT0 then (match xsl fn b (argE nn as) w with
    | .nx _ w => .ok (.fz .none) w
    | .rt v w => .ok v w
    | .exc x _ w => .exc x w
    | _ => .stuck)
  else .stuck
inductive Dfe where
  | txt (np nn : Nat) (b : Sl)
  | nat (np k0 : Nat) (g : List EV → Wd → CRes)
def Dfe.np : Dfe → Nat
  | .txt np _ _ => np
  | .nat np _ _ => np
/-- the defs of a text, by how deep calls may still go -/
noncomputable def fnAt (T : List Dfe) : Nat → Fns
  | 0 => fun _ _ _ => .stuck
  | k + 1 => fun f as w => match T[f]? with
    | some (.txt np nn b) => runB (fnAt T k) np nn b as w
    | some (.nat np k0 g) => if k0 ≤ k + 1 ∧ as.length = np then g as w else .stuck
    | none => .stuck
theorem fnAt_len {T : List Dfe} {f : Nat} {d : Dfe} (h : T[f]? = some d) : ∀ (k : Nat) as w, as.length ≠ d.np → fnAt T k f as w = .stuck
  | 0, _, _, _ => rfl
  | k + 1, as, w, hl => by
    simp only [fnAt, h]
    cases d with
    | txt np nn b => exact if_neg fun q => hl q.1
    | nat np k0 g => exact if_neg fun q => hl q.2

section
variable {K : PySem.W.Frag} {XR : XRT} {F F' : Hp} {ow ow' : Ow} {H H' : Hp} {w : Wd}
theorem argE_rel {N : List Str} {vs : List V} {as : List EV} (R : Rel K F ow [] H [] w) (hA : ARs K F ow vs as) (hl : as.length ≤ N.length) (hN : N.length ≤ TT0) : Rel K F ow (L2.start N vs) H (argE N.length as) w := by
  have e := hA.length
  refine ⟨R.sub, R.dis, R.trk, ?_, ?_, fun i x h => ?_, R.wld⟩
  · unfold L2.start argE
    simp [e]
  · unfold argE
    simp
    omega
  · unfold argE at h
    unfold L2.start
    have key : ∀ {vs : List V} {as : List EV} {i : Nat} {x : EV}, ARs K F ow vs as → as[i]? = some x → ∃ v, vs[i]? = some v ∧ AR K F ow v x := by
      intro vs as i x hA
      induction hA generalizing i with
      | nil => intro h; simp at h
      | cons a b ih =>
        intro h
        cases i with
        | zero => simp at h; subst h; exact ⟨_, rfl, a⟩
        | succ i => simpa using ih (by simpa using h)
    have hi : i < as.length := by
      by_cases q : i < as.length
      · exact q
      · rw [List.getElem?_append_right (by simp; omega)] at h
        simp [List.getElem?_replicate] at h
    rw [List.getElem?_append_left (by simp; exact hi)] at h
    rw [List.getElem?_map] at h
    cases q : as[i]? with
    | none => rw [q] at h; cases h
    | some x' =>
      rw [q] at h
      cases h
      obtain ⟨v, h1, h2⟩ := key hA q
      refine ⟨v, ?_, ?_⟩
      · rw [List.getElem?_append_left (by simp; omega), List.getElem?_map, h1]
        rfl
      · cases x with
        | fz d => exact h2
        | src => exact h2
        | bor i => exact h2.elim
        | lst ds => exact h2.elim
end

/-- THE RULE for a def of the text -/
theorem def_ok {P : Program} {w : World} {K : PySem.W.Frag} {mg : Str → Option Value} {base : Heap} {k : Nat} {x qual : Str} {st : Stmt} {f : Addr} {fd : FuncData} {ps : List Str} {XR : XRT} {cx : Cxt} {fn : Fns} {b : Sl}
    (Fu : Fun K x qual st f fd) (S : FnScope cx.N ps (defScope st)) (hsc : defScope st = cx.sc) (hfn : cx.fnb = fun _ => true) (hc : chkSl cx b (defBody st) = true)
    (bi : ∀ x, x ∈ bnames → mg x = none)
    (defs : ∀ f x, cx.defs[f]? = some x → ∃ a fd ps, mg x = some (.ref a) ∧ PySem.W.keepIn K (.ref a) = true ∧ Binds K fd ps [] ∧ FnG P w K mg base k a fd ps (SpD K XR ps.length (fn f)) ∧ ∀ as w, as.length ≠ ps.length → fn f as w = .stuck) :
    FnG P w K mg base (k + 1) f fd ps (SpD K XR ps.length (runB fn ps.length cx.N.length b)) := by
  refine fnG_of Fu S (fun vs H Q E h => h.1) fun cdv A outer s H vs Q E hr hg hsp => ?_
  obtain ⟨hl, F, ow, as, w0, R, hhi, hA, o⟩ := hsp
  have hb : as.length = ps.length ∧ cx.N.length ≤ TT0 := by
    by_cases q : as.length = ps.length ∧ cx.N.length ≤ TT0
    · exact q
    · unfold runB at o
      rw [if_neg q] at o
      exact o.elim
  have hpl : ps.length ≤ cx.N.length := by have := congrArg List.length S.pre; rw [List.length_take] at this; omega
  let X : Cx := cxOf (L2.CX P w) P w K mg base cx.N qual (defScope st) f cdv A outer s H E
  let en : En := ⟨F, ow, H, L2.start cx.N vs, cx.fx, hhi⟩
  have ft : Fits XR X cx fn k := ⟨rfl, S.nd, hsc, hfn.symm, rfl, hg, hr, bi, defs⟩
  have tk : Takes X (fun cls d _ H => E cls d H) := takes_of rfl rfl rfl rfl
  have hp : PassesOwn (model X.prog X.w) X.A X.env X.xe := passes_of rfl
  refine ⟨_, xsl_ok (en := en) b (defBody st) hc ft tk hp S.kind rfl, F, ow, argE cx.N.length as, w0, ⟨.refl, argE_rel R hA (by omega) hb.2, fun _ _ => rfl⟩, ?_⟩
  unfold runB at o
  rw [if_pos hb] at o
  have st : ∀ {F' ow' H'}, Stp F ow H F' ow' H' → Stp F ow H F' (restr ow') H' := fun {F' ow' H'} s => ⟨s.fz, s.fr, s.nF, fun b q => s.nO b (restr_ne q), fun b t q k => restr_some.mpr ⟨s.tg b t q k, k⟩, s.tr⟩
  revert o
  cases xsl fn b (argE cx.N.length as) w0 with
  | stuck => exact fun o => o
  | nx e1 w1 => exact fun o F' ow' σ' H' _ a => o F' (restr ow') H' .non (st a.1) a.2.1.callee Rp.non
  | bk e1 w1 => exact fun o => o.elim
  | ct e1 w1 => exact fun o => o.elim
  | rt v w1 => exact fun o F' ow' H' u s R r => o F' ow' H' u s R r
  | exc x e1 w1 => exact fun o F' ow' σ' H' cls d a xr => o F' (restr ow') H' cls d (st a.1) a.2.1.callee xr

/-- how a def stands in the text -/
structure DefAt (P : Program) (w : World) (K : PySem.W.Frag) (XR : XRT) (mg : Str → Option Value) (base : Heap) (defs : List Str) (x : Str) (d : Dfe) : Prop where
  ex : ∃ a fd ps, mg x = some (.ref a) ∧ PySem.W.keepIn K (.ref a) = true ∧ Binds K fd ps [] ∧ ps.length = d.np ∧
    match d with
    | .txt _ nn b => ∃ (st : Stmt) (qual : Str) (cx : Cxt), Fun K x qual st a fd ∧ FnScope cx.N ps (defScope st) ∧ defScope st = cx.sc ∧ (cx.fnb = fun _ => true) ∧ cx.N.length = nn ∧ cx.defs = defs ∧ chkSl cx b (defBody st) = true
    | .nat np k0 g => FnG P w K mg base k0 a fd ps (SpD K XR np g)
theorem all_ok {P : Program} {w : World} {K : PySem.W.Frag} {mg : Str → Option Value} {base : Heap} {XR : XRT} {T : List Dfe} {defs : List Str} (bi : ∀ x, x ∈ bnames → mg x = none)
    (hd : ∀ (f : Nat) (x : Str), defs[f]? = some x → ∃ d : Dfe, T[f]? = some d ∧ DefAt P w K XR mg base defs x d) :
    ∀ k f x, defs[f]? = some x → ∃ a fd ps, mg x = some (.ref a) ∧ PySem.W.keepIn K (.ref a) = true ∧ Binds K fd ps [] ∧ FnG P w K mg base k a fd ps (SpD K XR ps.length (fnAt T k f)) ∧ ∀ as w, as.length ≠ ps.length → fnAt T k f as w = .stuck := by
  intro k
  induction k with
  | zero =>
    intro f x hx
    obtain ⟨d, hT, D⟩ := hd f x hx
    obtain ⟨a, fd, ps, h1, h2, h3, h4, h5⟩ := D.ex
    exact ⟨a, fd, ps, h1, h2, h3, ⟨fun vs H Q E h => h.1, fun A outer s H args us vs Q E hr hg e0 hb hv hs => by
      obtain ⟨_, F, ow, as, w0, R, hhi, hA, o⟩ := hs
      exact o.elim⟩, fun _ _ _ => rfl⟩
  | succ k ih =>
    intro f x hx
    obtain ⟨d, hT, D⟩ := hd f x hx
    obtain ⟨a, fd, ps, h1, h2, h3, h4, h5⟩ := D.ex
    refine ⟨a, fd, ps, h1, h2, h3, ?_, fun as w hl => fnAt_len hT (k + 1) as w (by rw [← h4]; exact hl)⟩
    cases d with
    | txt np nn b =>
      obtain ⟨st, qual, cx, q1, q2, q3, q4, q5, q6, q7⟩ := h5
      subst q6
      have e : fnAt T (k + 1) f = runB (fnAt T k) ps.length cx.N.length b := by
        funext as w
        simp only [fnAt, hT]
        rw [h4, q5]
        rfl
      rw [e]
      exact def_ok q1 q2 q3 q4 q7 bi ih
    | nat np k0 g =>
      by_cases hk : k0 ≤ k + 1
      · refine FnG.imp (FnG.mono h5 hk) fun vs H Q E h => ?_
        obtain ⟨hl, F, ow, as, w0, R, hhi, hA, o⟩ := h
        refine ⟨hl.trans h4, F, ow, as, w0, R, hhi, hA, ?_⟩
        simp only [fnAt, hT] at o
        rw [if_pos ⟨hk, by rw [← hA.length, hl]; exact h4⟩] at o
        exact o
      · refine ⟨fun vs H Q E h => h.1, fun A outer s H args us vs Q E hr hg e0 hb hv hs => ?_⟩
        obtain ⟨_, F, ow, as, w0, R, hhi, hA, o⟩ := hs
        simp only [fnAt, hT] at o
        rw [if_neg fun q => hk q.1] at o
        exact o.elim
end DL

set_option Elab.async false
set_option linter.all false
set_option maxRecDepth 100000
set_option maxHeartbeats 4000000
set_option autoImplicit false
namespace DL
open PySem PySem.Spec L2

/-! ### the source's dict -/
abbrev sC : Key := Sum.inr ("cells" : Str)
abbrev sL : Key := Sum.inr ("left" : Str)
abbrev sM : Key := Sum.inr ("mixed" : Str)
abbrev sT : Key := Sum.inr ("turn" : Str)
def dkv (c : Addr) (l m t : Int) : List (Key × V) := [(sC, .ref c), (sL, .int l), (sM, .int m), (sT, .int t)]
theorem dk_c {c : Addr} {l m t : Int} : valV (dkv c l m t) sC = some (.ref c) := rfl
theorem lc_ : ¬ sC = sL := by decide +kernel
theorem mc_ : ¬ sC = sM := by decide +kernel
theorem tc_ : ¬ sC = sT := by decide +kernel
theorem ml_ : ¬ sL = sM := by decide +kernel
theorem tl_ : ¬ sL = sT := by decide +kernel
theorem tm_ : ¬ sM = sT := by decide +kernel
theorem dk_l {c : Addr} {l m t : Int} : valV (dkv c l m t) sL = some (.int l) := by
  unfold dkv
  rw [valV_neg lc_, valV_pos rfl]
theorem dk_m {c : Addr} {l m t : Int} : valV (dkv c l m t) sM = some (.int m) := by
  unfold dkv
  rw [valV_neg mc_, valV_neg ml_, valV_pos rfl]
theorem dk_t {c : Addr} {l m t : Int} : valV (dkv c l m t) sT = some (.int t) := by
  unfold dkv
  rw [valV_neg tc_, valV_neg tl_, valV_neg tm_, valV_pos rfl]
theorem put_l {c : Addr} {l m t z : Int} : putK (dkv c l m t) sL (.int z) = dkv c z m t := by
  have h1 : ¬ sM = sL := fun e => ml_ e.symm
  have h2 : ¬ sT = sL := fun e => tl_ e.symm
  unfold putK dkv
  simp only [List.any_cons, List.map_cons, List.map_nil, List.any_nil, lc_, h1, h2, decide_false, decide_true, Bool.false_or, Bool.true_or, if_true, if_false, reduceIte]
theorem put_m {c : Addr} {l m t z : Int} : putK (dkv c l m t) sM (.int z) = dkv c l z t := by
  have h2 : ¬ sT = sM := fun e => tm_ e.symm
  unfold putK dkv
  simp only [List.any_cons, List.map_cons, List.map_nil, List.any_nil, mc_, ml_, h2, decide_false, decide_true, Bool.false_or, Bool.true_or, if_true, if_false, reduceIte]
theorem put_t {c : Addr} {l m t z : Int} : putK (dkv c l m t) sT (.int z) = dkv c l m z := by
  unfold putK dkv
  simp only [List.any_cons, List.map_cons, List.map_nil, List.any_nil, tc_, tl_, tm_, decide_false, decide_true, Bool.false_or, Bool.true_or, if_true, if_false, reduceIte]

/-- the source at a and c, all else as in H0 -/
structure SrcK (H0 H : Hp) (a c : Addr) (s : Src) : Prop where
  d : H a = some (.dK (dkv c s.left s.mixed s.turn))
  l : H c = some (.lst (s.cells.map V.int))
  out : ∀ b, b ≠ a → b ≠ c → H b = H0 b
theorem SrcK.ne {H0 H : Hp} {a c : Addr} {s : Src} (h : SrcK H0 H a c s) : a ≠ c := by
  intro e
  have := h.d
  rw [e, h.l] at this
  cases this
theorem SrcK.setD {H0 H : Hp} {a c : Addr} {s s' : Src} (h : SrcK H0 H a c s) (e : s'.cells = s.cells) : SrcK H0 (upd H a (.dK (dkv c s'.left s'.mixed s'.turn))) a c s' :=
  ⟨upd_same, by rw [upd_ne (Ne.symm h.ne), h.l, e], fun b h1 h2 => by rw [upd_ne h1]; exact h.out b h1 h2⟩
theorem SrcK.setL {H0 H : Hp} {a c : Addr} {s : Src} {cs : List Int} (h : SrcK H0 H a c s) : SrcK H0 (upd H c (.lst (cs.map V.int))) a c { s with cells := cs } :=
  ⟨by rw [upd_ne h.ne, h.d], upd_same, fun b h1 h2 => by rw [upd_ne h2]; exact h.out b h1 h2⟩
section
variable {K : PySem.W.Frag} {F : Hp} {ow : Ow} {H H' : Hp} {a c : Addr} {s0 s : Src}
theorem src_of (h : WRel ow H (some s0)) : ∃ a c, ow a = some TS ∧ ow c = some TC ∧ (∀ b, ow b = some TS → b = a) ∧ (∀ b, ow b = some TC → b = c) ∧ SrcK H H a c s0 := by
  obtain ⟨a, c, h1, h2, h3, h4, h5⟩ := h
  exact ⟨a, c, h1, h2, h3, h4, h5.d, h5.l, fun _ _ _ => rfl⟩
theorem SrcK.rel (R : Rel K F ow [] H [] (some s0)) (h1 : ow a = some TS) (h2 : ow c = some TC) (h3 : ∀ b, ow b = some TS → b = a) (h4 : ∀ b, ow b = some TC → b = c) (k : SrcK H H' a c s) : Stp F ow H F ow H' ∧ Rel K F ow [] H' [] (some s) := by
  have kp : ∀ b o, ow b = none → H b = some o → H' b = some o := fun b o q e => by
    rw [k.out b (by intro z; subst z; rw [h1] at q; cases q) (by intro z; subst z; rw [h2] at q; cases q)]
    exact e
  have tr : ∀ b, H b ≠ none → H' b ≠ none := fun b q => by
    by_cases z : b = a
    · subst z; rw [k.d]; simp
    · by_cases z2 : b = c
      · subst z2; rw [k.l]; simp
      · rw [k.out b z z2]; exact q
  refine ⟨⟨Same.refl _, kp, fun _ q => .inl q, fun _ q => .inl q, fun _ _ q _ => q, tr⟩, fun b o q => ?_, R.dis, fun b q => tr b (R.trk b q), rfl, Nat.zero_le _, fun i e q => by simp at q, a, c, h1, h2, h3, h4, k.d, k.l⟩
  refine kp b o ?_ (R.sub b o q)
  cases z : ow b with
  | none => rfl
  | some t => rw [R.dis b (by rw [z]; simp)] at q; cases q
end

/-! ### what the drawing does -/
def fillB : Nat → Src → Src
  | 0, s => s
  | n + 1, s => if s.left < 2 then (match s.cells[s.cells.length - 1]? with
      | some x => fillB n { s with cells := s.cells.dropLast, left := x }
      | none => s) else s
/-- the second kind of _law_pick -/
def pickB (m : Int) (s : Src) : Int × Src :=
  if m < 2 then (0, s) else
    let s1 := fillB s.cells.length s
    if 1 < s1.left then (s1.left % m, { s1 with left := s1.left / m })
    else
      let t := s1.turn + 1
      let z := (s1.mixed + t * 104729) % 998244353
      let z2 := (z * z + t * 17) % 2147483647
      ((z2 / 16) % m, { s1 with turn := t })
theorem pickB_low (m : Int) (s : Src) (h : m < 2) : (pickB m s).1 = 0 := by unfold pickB; rw [if_pos h]
theorem pickB_rng (m : Int) (s : Src) (h : 1 ≤ m) : 0 ≤ (pickB m s).1 ∧ (pickB m s).1 < m := by
  unfold pickB
  split
  · exact ⟨Int.le_refl _, by omega⟩
  · dsimp only
    split
    · exact ⟨Int.emod_nonneg _ (by omega), Int.emod_lt_of_pos _ (by omega)⟩
    · exact ⟨Int.emod_nonneg _ (by omega), Int.emod_lt_of_pos _ (by omega)⟩
def pickN : List EV → Wd → CRes
  | [.src, .fz (.int m)], some s => if m < 2 ^ 62 then .ok (.fz (.int (pickB m s).1)) (some (pickB m s).2) else .stuck
  | _, _ => .stuck
theorem log2_62 {m : Int} (h0 : 0 ≤ m) (h : m < 2 ^ 62) : m.natAbs.log2 < 9000 := by
  have h1 : m.natAbs < 2 ^ 62 := by omega
  by_cases z : m.natAbs = 0
  · rw [z]; decide
  · have := (Nat.log2_lt z).mpr h1
    omega
theorem small_log {m : Int} (h0 : 0 ≤ m) (h : m < 2 ^ 62) : m.natAbs.log2 < 62 := by
  have h1 : m.natAbs < 2 ^ 62 := by omega
  by_cases z : m.natAbs = 0
  · rw [z]; decide
  · exact (Nat.log2_lt z).mpr h1

/-! ### _law_pick, as a reading -/
abbrev rLen2 (K : PySem.W.Frag) : List V → Hp → VK → Prop := fun xs H Q => ∃ p ys, xs = [V.ref p] ∧ (SqL K H p ys ∨ SqT K H p ys) ∧ Q (V.int ys.length) H
abbrev rInt1 : List V → Hp → VK → Prop := fun xs H Q => (∃ i, xs = [V.int i] ∧ Q (V.int i) H) ∨ ∃ k, xs = [V.bl k] ∧ Q (V.int (if k = true then 1 else 0)) H
abbrev rLt2 : R2 := rI0 fun i j => V.bl (decide (i < j))
abbrev rGt2 : R2 := rI0 fun i j => V.bl (decide (j < i))
abbrev rAdd2 : R2 := rI0 fun i j => V.int (i + j)
abbrev rMul2 : R2 := rI CMul fun i j => V.int (i * j)
abbrev rMod2 : R2 := rI (fun _ j => 0 < j) fun i j => V.int (i % j)
abbrev rDiv2 : R2 := rI CDivW fun i j => V.int (i / j)
abbrev gF (x : Str) : TE := tDGet (tVar 0) (tC (V.str x))
def tPickB (K : PySem.W.Frag) : L2.TS :=
  tSeq (tIfS (tTest (tOp rLt2 (tVar 1) (tC (.int 2)))) (tRet (tC (.int 0))) tNext)
  (tSeq (tAsg (gF "cells") (gName 2))
  (tSeq (tWhile (tAnd (tTest (tOp rLt2 (gF "left") (tC (.int 2)))) (tTest (tOp rGt2 (tCB (rLen2 K) (tCons (tVar 2) tNil)) (tC (.int 0))))) (sDPut (tVar 0) (tC (.str "left")) (tBM0 K "list" rPop (tVar 2))))
  (tSeq (tAsg (gF "left") (gName 3))
  (tSeq (tIfS (tTest (tOp rGt2 (tVar 3) (tC (.int 1)))) (tSeq (sDPut (tVar 0) (tC (.str "left")) (tOp rDiv2 (tVar 3) (tVar 1))) (tRet (tOp rMod2 (tCB rInt1 (tCons (tVar 3) tNil)) (tVar 1)))) tNext)
  (tSeq (sDPut (tVar 0) (tC (.str "turn")) (tOp rAdd2 (gF "turn") (tC (.int 1))))
  (tSeq (tAsg (gF "turn") (gName 4))
  (tSeq (tAsg (tOp rMod2 (tCB rInt1 (tCons (tOp rAdd2 (gF "mixed") (tOp rMul2 (tVar 4) (tC (.int 104729)))) tNil)) (tC (.int 998244353))) (gName 5))
  (tSeq (tAsg (tOp rMod2 (tCB rInt1 (tCons (tOp rAdd2 (tOp rMul2 (tVar 5) (tVar 5)) (tOp rMul2 (tVar 4) (tC (.int 17)))) tNil)) (tC (.int 2147483647))) (gName 5))
  (tRet (tOp rMod2 (tCB rInt1 (tCons (tOp rDiv2 (tVar 5) (tC (.int 16))) tNil)) (tVar 1)))))))))))
section
variable {K : PySem.W.Frag} {σ : St} {H H0 : Hp} {a c : Addr} {s : Src} {Q : VK}
theorem g_left (h : σ[0]? = some (some (V.ref a))) (k : SrcK H0 H a c s) (q : Q (.int s.left) H) : gF "left" σ H Q := ⟨_, h, a, _, rfl, by have := DGet.k (k := sL) k.d; rw [dk_l] at this; exact this, q⟩
theorem g_turn (h : σ[0]? = some (some (V.ref a))) (k : SrcK H0 H a c s) (q : Q (.int s.turn) H) : gF "turn" σ H Q := ⟨_, h, a, _, rfl, by have := DGet.k (k := sT) k.d; rw [dk_t] at this; exact this, q⟩
theorem g_mixed (h : σ[0]? = some (some (V.ref a))) (k : SrcK H0 H a c s) (q : Q (.int s.mixed) H) : gF "mixed" σ H Q := ⟨_, h, a, _, rfl, by have := DGet.k (k := sM) k.d; rw [dk_m] at this; exact this, q⟩
theorem g_cells (h : σ[0]? = some (some (V.ref a))) (k : SrcK H0 H a c s) (q : Q (.ref c) H) : gF "cells" σ H Q := ⟨_, h, a, _, rfl, by have := DGet.k (k := sC) k.d; rw [dk_c] at this; exact this, q⟩
theorem p_left {z : Int} (k : SrcK H0 H a c s) : DPut H a (.str "left") (.int z) (upd H a (.dK (dkv c z s.mixed s.turn))) := by
  have := DPut.k (k := sL) (v := .int z) k.d (by show 4 < sizeLine; decide)
  rw [put_l] at this
  exact this
theorem p_turn {z : Int} (k : SrcK H0 H a c s) : DPut H a (.str "turn") (.int z) (upd H a (.dK (dkv c s.left s.mixed z))) := by
  have := DPut.k (k := sT) (v := .int z) k.d (by show 4 < sizeLine; decide)
  rw [put_t] at this
  exact this
theorem p_mixed {z : Int} (k : SrcK H0 H a c s) : DPut H a (.str "mixed") (.int z) (upd H a (.dK (dkv c s.left z s.turn))) := by
  have := DPut.k (k := sM) (v := .int z) k.d (by show 4 < sizeLine; decide)
  rw [put_m] at this
  exact this
theorem last_map {cs : List Int} {x : Int} (h : cs[cs.length - 1]? = some x) : (cs.map V.int)[(cs.map V.int).length - 1]? = some (V.int x) := by
  rw [List.length_map, List.getElem?_map, h]
  rfl
theorem fillB_stop {n : Nat} {s : Src} (h : ¬ (s.left < 2 ∧ 0 < s.cells.length)) (hn : s.cells.length = n) : fillB n s = s := by
  cases n with
  | zero => rfl
  | succ n =>
    unfold fillB
    by_cases q : s.left < 2
    · exact absurd ⟨q, by omega⟩ h
    · rw [if_neg q]
theorem small_mul {z : Int} (h0 : 0 ≤ z) (h : z < 998244353) : CMul z z := .inl ⟨by omega, by omega⟩
theorem pickB_run {m : Int} {s0 : Src} {D : Ends} (h2 : m < 2 ^ 62) (k0 : SrcK H0 H a c s0) (fin : ∀ H', SrcK H0 H' a c (pickB m s0).2 → D.rt (.int (pickB m s0).1) H') :
    tPickB K D [some (.ref a), some (.int m), none, none, none, none] H := by
  refine ⟨_, rfl, m, 2, rfl, rfl, _, rfl, ?_⟩
  by_cases hm : m < 2
  · have e : pickB m s0 = (0, s0) := by unfold pickB; rw [if_pos hm]
    rw [e] at fin
    show (if decide (m < 2) = true then _ else _)
    rw [if_pos (decide_eq_true hm)]
    exact fin H k0
  · show (if decide (m < 2) = true then _ else _)
    rw [if_neg (by simpa using hm)]
    refine g_cells rfl k0 ?_
    refine ⟨fun n σ' H' => ∃ s1, σ' = [some (.ref a), some (.int m), some (.ref c), none, none, none] ∧ SrcK H0 H' a c s1 ∧ s1.cells.length = n ∧ fillB n s1 = fillB s0.cells.length s0, ⟨_, s0, rfl, k0, rfl, rfl⟩, ?_⟩
    rintro n σ' H' ⟨s1, rfl, k1, hn, hf⟩
    have tail : ¬ (s1.left < 2 ∧ 0 < s1.cells.length) → (tSeq (tAsg (gF "left") (gName 3))
        (tSeq (tIfS (tTest (tOp rGt2 (tVar 3) (tC (.int 1)))) (tSeq (sDPut (tVar 0) (tC (.str "left")) (tOp rDiv2 (tVar 3) (tVar 1))) (tRet (tOp rMod2 (tCB rInt1 (tCons (tVar 3) tNil)) (tVar 1)))) tNext)
        (tSeq (sDPut (tVar 0) (tC (.str "turn")) (tOp rAdd2 (gF "turn") (tC (.int 1))))
        (tSeq (tAsg (gF "turn") (gName 4))
        (tSeq (tAsg (tOp rMod2 (tCB rInt1 (tCons (tOp rAdd2 (gF "mixed") (tOp rMul2 (tVar 4) (tC (.int 104729)))) tNil)) (tC (.int 998244353))) (gName 5))
        (tSeq (tAsg (tOp rMod2 (tCB rInt1 (tCons (tOp rAdd2 (tOp rMul2 (tVar 5) (tVar 5)) (tOp rMul2 (tVar 4) (tC (.int 17)))) tNil)) (tC (.int 2147483647))) (gName 5))
        (tRet (tOp rMod2 (tCB rInt1 (tCons (tOp rDiv2 (tVar 5) (tC (.int 16))) tNil)) (tVar 1))))))))) D [some (.ref a), some (.int m), some (.ref c), none, none, none] H' := by
      intro hno
      have e1 : s1 = fillB s0.cells.length s0 := by rw [← hf, fillB_stop hno hn]
      refine g_left rfl k1 ?_
      refine ⟨_, rfl, s1.left, 1, rfl, rfl, _, rfl, ?_⟩
      show (if decide (1 < s1.left) = true then _ else _)
      by_cases hl : 1 < s1.left
      · rw [if_pos (decide_eq_true hl)]
        have e : pickB m s0 = (s1.left % m, { s1 with left := s1.left / m }) := by
          unfold pickB
          rw [if_neg hm]
          simp only [← e1]
          rw [if_pos hl]
        rw [e] at fin
        refine ⟨_, rfl, _, rfl, s1.left, m, rfl, rfl, ⟨by omega, log2_62 (by omega) h2⟩, ?_⟩
        refine ⟨_, rfl, a, _, rfl, p_left k1, ?_⟩
        exact ⟨_, rfl, .inl ⟨s1.left, rfl, _, rfl, s1.left, m, rfl, rfl, by omega, fin _ (SrcK.setD (s' := { s1 with left := s1.left / m }) k1 rfl)⟩⟩
      · rw [if_neg (by simpa using hl)]
        have k2 := SrcK.setD (s' := { s1 with turn := s1.turn + 1 }) k1 rfl
        have e : pickB m s0 = ((((((s1.mixed + (s1.turn + 1) * 104729) % 998244353) * ((s1.mixed + (s1.turn + 1) * 104729) % 998244353) + (s1.turn + 1) * 17) % 2147483647) / 16) % m, { s1 with turn := s1.turn + 1 }) := by
          unfold pickB
          rw [if_neg hm]
          simp only [← e1]
          rw [if_neg hl]
        rw [e] at fin
        refine g_turn rfl k1 ⟨_, _, rfl, rfl, _, rfl, a, _, rfl, p_turn k1, ?_⟩
        refine g_turn rfl k2 ?_
        refine g_mixed rfl k2 ⟨_, rfl, _, 104729, rfl, rfl, .inr ⟨by decide, by decide⟩, _, _, rfl, rfl, .inl ⟨_, rfl, _, 998244353, rfl, rfl, show (0 : Int) < 998244353 by decide, ?_⟩⟩
        have z0 := Int.emod_nonneg (s1.mixed + (s1.turn + 1) * 104729) (show (998244353 : Int) ≠ 0 by decide)
        have z1 := Int.emod_lt_of_pos (s1.mixed + (s1.turn + 1) * 104729) (show (0 : Int) < 998244353 by decide)
        refine ⟨_, rfl, _, rfl, _, _, rfl, rfl, small_mul z0 z1, ?_⟩
        refine ⟨_, rfl, _, 17, rfl, rfl, .inr ⟨by decide, by decide⟩, _, _, rfl, rfl, .inl ⟨_, rfl, _, 2147483647, rfl, rfl, show (0 : Int) < 2147483647 by decide, ?_⟩⟩
        refine ⟨_, rfl, _, 16, rfl, rfl, ⟨by decide, by decide⟩, .inl ⟨_, rfl, _, rfl, _, m, rfl, rfl, by omega, ?_⟩⟩
        exact fin _ k2
    refine g_left rfl k1 ⟨_, 2, rfl, rfl, _, rfl, ?_⟩
    show (if decide (s1.left < 2) = true then _ else _)
    by_cases hl : s1.left < 2
    · rw [if_pos (decide_eq_true hl)]
      refine ⟨_, rfl, c, _, rfl, .inl (SqL.of k1.l), _, 0, rfl, rfl, _, rfl, ?_⟩
      show (if decide ((0 : Int) < (s1.cells.map V.int).length) = true then _ else _)
      rw [List.length_map]
      by_cases hc : 0 < s1.cells.length
      · rw [if_pos (decide_eq_true (by omega))]
        obtain ⟨x, hx⟩ : ∃ x, s1.cells[s1.cells.length - 1]? = some x := ⟨_, List.getElem?_eq_getElem (by omega)⟩
        cases n with
        | zero => omega
        | succ n =>
          refine ⟨fun σ' H' => ∃ s1, σ' = [some (.ref a), some (.int m), some (.ref c), none, none, none] ∧ SrcK H0 H' a c s1 ∧ s1.cells.length = n ∧ fillB n s1 = fillB s0.cells.length s0, fun σ' H' q => ⟨n, Nat.lt_succ_self n, q⟩, ?_⟩
          have k2 := SrcK.setL (cs := s1.cells.dropLast) k1
          have k3 := SrcK.setD (s' := { s1 with cells := s1.cells.dropLast, left := x }) k2 rfl
          refine ⟨_, rfl, .inl ⟨rfl, _, SqL.of k1.l⟩, c, _, .int x, rfl, rfl, k1.l, last_map hx, ?_⟩
          refine ⟨_, rfl, a, _, rfl, p_left (z := x) (by rw [show (s1.cells.map V.int).dropLast = s1.cells.dropLast.map V.int from List.map_dropLast.symm]; exact k2), ?_⟩
          refine ⟨{ s1 with cells := s1.cells.dropLast, left := x }, rfl, ?_, ?_, ?_⟩
          · rw [show (s1.cells.map V.int).dropLast = s1.cells.dropLast.map V.int from List.map_dropLast.symm]
            exact k3
          · simp only [List.length_dropLast]; omega
          · rw [← hf]
            show _ = fillB (n + 1) s1
            rw [fillB, if_pos hl, hx]
      · rw [if_neg (by simpa using hc)]
        exact tail fun q => hc q.2
    · rw [if_neg (by simpa using hl)]
      exact tail fun q => hl q.1
end
end DL

set_option Elab.async false
set_option linter.all false
set_option maxRecDepth 100000
set_option maxHeartbeats 4000000
set_option autoImplicit false
namespace DL
open PySem PySem.Spec L2

/-! ### the source is made -/
def spOpen (K : PySem.W.Frag) : Sp := fun vs H Q _ => ∃ (a : Addr) (ns : List Int), vs = [.ref a] ∧ SqL K H a (ns.map V.int) ∧ ns.length ≤ 63 ∧
  ∀ H' d c s, Same H H' → H d = none → SrcK H' H' d c s → H c = none → Q (.ref d) H'
abbrev rAbs1 : List V → Hp → VK → Prop := fun xs H Q => ∃ i, xs = [V.int i] ∧ Q (V.int (if i < 0 then -i else i)) H
def tOpenB (K : PySem.W.Frag) : L2.TS :=
  tSeq (tAsg (tC (.int 11)) (gName 1))
  (tSeq (tFor (iList K (tVar 0)) (gName 3) (tAsg (tOp rMod2 (tCB rInt1 (tCons (tOp rAdd2 (tOp rAdd2 (tOp rMul2 (tVar 1) (tC (.int 69069))) (tOp rMul2 (tVar 3) (tC (.int 31)))) (tC (.int 5))) tNil)) (tC (.int 2147483629))) (gName 1)))
  (tSeq (tAsg (tLc (iList K (tVar 0)) (gName 3) tYes (tCB rAbs1 (tCons (tVar 3) tNil)) [3]) (gName 2))
  (tRet (tDisp [(tC (.str "cells"), tRevL K (tVar 2)), (tC (.str "left"), tC (.int 1)), (tC (.str "mixed"), tVar 1), (tC (.str "turn"), tC (.int 0))]))))
theorem merge4 {c : Addr} {m : Int} : mergeK [] [(sC, V.ref c), (sL, V.int 1), (sM, V.int m), (sT, V.int 0)] = dkv c 1 m 0 := by
  have h1 : ¬ sC = sL := lc_
  unfold mergeK putK dkv
  simp only [List.foldl_cons, List.foldl_nil, List.any_nil, List.any_cons, List.map_cons, List.map_nil, lc_, mc_, tc_, ml_, tl_, tm_, decide_false, decide_true, Bool.false_or, Bool.or_false, if_false, reduceIte, List.nil_append, List.cons_append, Bool.false_eq_true]
theorem openB_run {K : PySem.W.Frag} {a : Addr} {ns : List Int} {H : Hp} {D : Ends} (hS : SqL K H a (ns.map V.int)) (hn : ns.length ≤ 63) (fin : ∀ H' d c s, Same H H' → H d = none → SrcK H' H' d c s → H c = none → D.rt (.ref d) H') :
    tOpenB K D [some (.ref a), none, none, none] H := by
  refine ⟨_, rfl, a, rfl, ⟨_, hS⟩, for_list (K := K) (a := a) (xs := ns.map V.int) (fun i σ H' => H' = H ∧ ∃ (z : Int) (v : Option V), σ = [some (.ref a), some (.int z), none, v]) ⟨rfl, 11, none, rfl⟩ (fun i σ H' _ h => by rw [h.1]; exact hS) ?_ ?_⟩
  · rintro i y σ H' hi ⟨rfl, z, v, rfl⟩
    obtain ⟨u, rfl⟩ : ∃ u, y = V.int u := by
      rw [List.getElem?_map] at hi
      cases q : ns[i]? with
      | none => rw [q] at hi; cases hi
      | some u => rw [q] at hi; cases hi; exact ⟨u, rfl⟩
    refine ⟨_, rfl, z, 69069, rfl, rfl, .inr ⟨by decide, by decide⟩, _, rfl, u, 31, rfl, rfl, .inr ⟨by decide, by decide⟩, _, _, rfl, rfl, _, 5, rfl, rfl, .inl ⟨_, rfl, _, 2147483629, rfl, rfl, show (0 : Int) < 2147483629 by decide, ?_⟩⟩
    exact ⟨rfl, _, _, rfl⟩
  · rintro σ H' ⟨rfl, z, v, rfl⟩
    refine ⟨_, rfl, a, rfl, ⟨_, hS⟩, fun D1 hD1 => ?_⟩
    have sD : Same H' (upd H' D1 (.lst [])) := Same.upd hD1
    refine lc_list (K := K) (a := a) (xs := ns.map V.int) (fun i H2 => i ≤ ns.length ∧ ∃ acc : List Int, acc.length = i ∧ H2 = upd H' D1 (.lst (acc.map V.int))) ⟨Nat.zero_le _, [], rfl, rfl⟩ ?_ ?_ ?_
    · rintro i H2 _ ⟨_, acc, _, rfl⟩
      exact Same.seq (Same.upd hD1) hS
    · rintro i y H2 hi ⟨hl, acc, ha, rfl⟩
      obtain ⟨u, rfl⟩ : ∃ u, y = V.int u := by
        rw [List.getElem?_map] at hi
        cases q : ns[i]? with
        | none => rw [q] at hi; cases hi
        | some u => rw [q] at hi; cases hi; exact ⟨u, rfl⟩
      have hi' := idx_lt hi
      rw [List.length_map] at hi'
      refine ⟨rfl, ?_⟩
      unfold tYes
      dsimp only
      rw [if_pos rfl]
      have h63 : (63 : Nat) < sizeLine := by decide
      refine ⟨_, rfl, u, rfl, _, upd_same, by rw [List.length_map]; omega, hi', acc ++ [if u < 0 then -u else u], by simp [ha], ?_⟩
      rw [upd_upd, List.map_append]
      rfl
    · rintro H2 ⟨_, acc, ha, rfl⟩
      show tDisp _ _ _ _
      intro p hp
      have np : D1 ≠ p := by
        intro e
        rw [e, upd_same] at hp
        cases hp
      have hp' : H' p = none := by
        rw [upd_ne np.symm] at hp
        exact hp
      refine ⟨_, rfl, D1, _, rfl, SqL.of (Eq.trans (upd_ne np) upd_same), fun c hc => ?_⟩
      have nc : p ≠ c := by
        intro e
        rw [e, upd_same] at hc
        cases hc
      have nd : D1 ≠ c := by
        intro e
        rw [← e, upd_ne np, upd_same] at hc
        cases hc
      have hc' : H' c = none := by
        rw [upd_ne nc.symm, upd_ne nd.symm] at hc
        exact hc
      refine ⟨_, rfl, ?_⟩
      refine ⟨Eq.trans (upd_ne nc) upd_same, [(sC, .ref c), (sL, .int 1), (sM, .int z), (sT, .int 0)], rfl, (show 4 ≤ 15 by decide), ?_⟩
      rw [merge4]
      refine fin _ p c ⟨acc.reverse, 1, z, 0⟩ ?_ hp' ⟨upd_same, ?_, fun _ _ _ => rfl⟩ hc'
      · intro b u e
        rw [upd_ne (ne_of_none e hp'), upd_ne (ne_of_none e hc'), upd_ne (ne_of_none e hp'), upd_ne (ne_of_none e hD1)]
        exact e
      · rw [upd_ne nc.symm, upd_same]
        simp [List.map_reverse]
end DL

set_option Elab.async false
set_option linter.all false
set_option maxRecDepth 100000
set_option maxHeartbeats 4000000
set_option autoImplicit false
namespace DL
open PySem PySem.Spec L2

/-! ### the law's def -/
/-- the names behind the first row of a law's def: the script is not told any more -/
def lawE (nn : Nat) : Nv := (List.replicate nn none).set 1 (some .src)
def spLaw (K : PySem.W.Frag) : Sp := fun vs H Q _ => ∃ (a : Addr) (ns : List Int), vs = [.ref a] ∧ SqL K H a (ns.map V.int) ∧ ns.length ≤ 63 ∧ ∀ H', Q (.bl true) H'
def dropOne : Sl → Sl
  | .nil => .nil
  | .cons _ r => r
theorem law_ok {P : Program} {w : World} {K : PySem.W.Frag} {mg : Str → Option Value} {base : Heap} {k : Nat} {st : Stmt} {f : Addr} {fd : FuncData} {XR : XRT} {cx : Cxt} {fn : Fns} {b : Sl} {st0 : Stmt} {rest : List Stmt}
    {fo : Addr} {fdo : FuncData} {xo : Str} {x1 : Str} {p1 p2 p3 p4 p5 : Pos}
    (Fu : Fun K "law" "law" st f fd) (S : FnScope cx.N ["script"] (defScope st)) (hsc : defScope st = cx.sc) (hfn : cx.fnb = fun _ => true)
    (hst : defBody st = st0 :: rest) (hst0 : st0 = .Assign [.Name x1 p1] (.Call (.Name xo p2) [.Name "script" p3] [] p4) p5) (hx1 : cx.N[1]? = some x1) (hl1 : locB cx x1 = true) (hgo : glB cx.sc xo = true) (hoo : odd xo = false)
    (hc : chkSl cx b rest = true) (hN : cx.N.length ≤ TT0) (hN0 : cx.N[0]? = some ("script" : Str))
    (Fo : FnG P w K mg base k fo fdo ["script"] (spOpen K)) (mo : mg xo = some (.ref fo)) (ko : PySem.W.keepIn K (.ref fo) = true) (bo : Binds K fdo ["script"] [])
    (bi : ∀ x, x ∈ bnames → mg x = none)
    (defs : ∀ f x, cx.defs[f]? = some x → ∃ a fd ps, mg x = some (.ref a) ∧ PySem.W.keepIn K (.ref a) = true ∧ Binds K fd ps [] ∧ FnG P w K mg base k a fd ps (SpD K XR ps.length (fn f)) ∧ ∀ as w, as.length ≠ ps.length → fn f as w = .stuck)
    (law : ∀ s : Src, ∃ w', xsl fn b (lawE cx.N.length) (some s) = .rt (.fz (.bool true)) w') :
    FnG P w K mg base (k + 1) f fd ["script"] (spLaw K) := by
  refine fnG_of Fu S (fun vs H Q E h => ?_) fun cdv A outer s H vs Q E hr hg hsp => ?_
  · obtain ⟨a, ns, rfl, _⟩ := h
    rfl
  obtain ⟨a, ns, rfl, hS, hn, fin⟩ := hsp
  have hpl : 1 ≤ cx.N.length := by have := idx_lt hN0; omega
  let X : Cx := cxOf (L2.CX P w) P w K mg base cx.N "law" (defScope st) f cdv A outer s H E
  have ft : Fits XR X cx fn k := ⟨rfl, S.nd, hsc, hfn.symm, rfl, hg, hr, bi, defs⟩
  have tk : Takes X (fun cls d _ H => E cls d H) := takes_of rfl rfl rfl rfl
  have hp : PassesOwn (model X.prog X.w) X.A X.env X.xe := passes_of rfl
  have kS := S.kind
  rw [hst]
  subst hst0
  have hv0 : Vis X.env.scope "script" := by
    rcases S.par "script" (by simp) with q | q
    · exact .inl q
    · exact .inr (.inl q)
  have q1 := ft.loc hl1
  have hA : PA X [.Name "script" p3] (tCons (tVar 0) tNil) := pa_cons (pe_var hN0 hv0) pa_nil
  have call := pe_g (X := X) (E := fun _ _ _ _ => False) (pos := p4) (p := p2) Fo hr hg (ft.gl hgo) mo ko bo (fun σ pins H s e s' I c => absurd c (by
    rintro ⟨_, _, _, _, _, _, _, _, _, _, _, _, z⟩
    exact z)) hA (odd_not hoo).1 rfl rfl
  have set0 := ps_set (X := X) (i := 1) (pos := p5) (pos' := p1) S.nd hx1 q1.1 call rfl q1.2
  have main : ∀ en : En, en.fx = cx.fx → PSs X rest (SemS X.K XR en (xsl fn b) (fun cls d _ H => E cls d H)) := fun en he => xsl_ok b rest hc ft tk hp S.kind he
  -- what is wanted behind the first row
  let D2 : Ends := { nx := fun _ H' => Q .non H', rt := Q }
  refine ⟨tSeq (tAsg (tCallS (spOpen K) (fun _ _ _ _ => False) (tCons (tVar 0) tNil)) (gName 1)) (fun D σ H => ∃ en : En, en.fx = cx.fx ∧ SemS X.K XR en (xsl fn b) (fun cls d _ H => E cls d H) D σ H), pss_cons set0 ⟨fun pins s σ H D I ⟨en, he, q⟩ => (main en he).run pins s σ H D I q⟩, ?_⟩
  refine ⟨.ref a, rfl, a, ns, rfl, hS, hn, fun H' d c z sH hd hk hcn => ?_⟩
  have hne := hk.ne
  let ow : Ow := fun b => if b = d then some TS else if b = c then some TC else none
  have owd : ow d = some TS := if_pos rfl
  have owc : ow c = some TC := by show (if c = d then _ else _) = _; rw [if_neg (fun e => hne e.symm), if_pos rfl]
  have owi : ∀ b t, ow b = some t → (b = d ∧ t = TS) ∨ (b = c ∧ t = TC) := by
    intro b t h
    have h : (if b = d then some TS else if b = c then some TC else none) = some t := h
    split at h
    · cases h; exact .inl ⟨by assumption, rfl⟩
    · split at h
      · cases h; exact .inr ⟨by assumption, rfl⟩
      · cases h
  have own : ∀ b, ow b ≠ none → b = d ∨ b = c := by
    intro b h
    cases q : ow b with
    | none => exact absurd q h
    | some t => rcases owi b t q with z | z
                · exact .inl z.1
                · exact .inr z.1
  let σ1 : St := (L2.start cx.N [V.ref a]).set 1 (some (.ref d))
  let en : En := ⟨H, ow, H', σ1, cx.fx, fun b t h => by rcases owi b t h with ⟨_, rfl⟩ | ⟨_, rfl⟩ <;> decide⟩
  have hl : σ1.length = (lawE cx.N.length).length := by
    show ((L2.start cx.N [V.ref a]).set 1 _).length = ((List.replicate cx.N.length none).set 1 _).length
    unfold L2.start
    simp
    omega
  have R : Rel K H ow σ1 H' (lawE cx.N.length) (some z) := by
    refine ⟨sH, fun b h => ?_, fun b h => ?_, hl, ?_, fun i e h => ?_, d, c, owd, owc, fun b h => ?_, fun b h => ?_, hk.d, hk.l⟩
    · rcases own b h with rfl | rfl
      · exact hd
      · exact hcn
    · rcases own b h with rfl | rfl
      · rw [hk.d]; simp
      · rw [hk.l]; simp
    · unfold lawE; simp; exact hN
    · unfold lawE at h
      rcases set_at h with ⟨rfl, h1, h2⟩ | ⟨h1, h2⟩
      · cases h1
        refine ⟨.ref d, ?_, d, rfl, owd⟩
        show ((L2.start cx.N [V.ref a]).set 1 _)[1]? = _
        rw [List.getElem?_set_self]
        unfold L2.start
        simp at h2 ⊢
        omega
      · rw [List.getElem?_replicate] at h2
        split at h2 <;> cases h2
    · rcases owi b _ h with ⟨e, _⟩ | ⟨_, e⟩
      · exact e
      · exact absurd e (by decide)
    · rcases owi b _ h with ⟨_, e⟩ | ⟨e, _⟩
      · exact absurd e (by decide)
      · exact e
  obtain ⟨w', hw⟩ := law z
  refine ⟨en, rfl, H, ow, lawE cx.N.length, some z, ⟨.refl, R, fun _ _ => rfl⟩, ?_⟩
  rw [hw]
  intro F2 ow2 H2 u _ _ r
  cases (show Rp K F2 u (.bool true) from r)
  exact fin H2

/-! ### the head -/
theorem law_callG {P : Program} {w : World} {K : PySem.W.Frag} {mg mb : Str → Option Value} {k : Nat} {fa a : Addr} {fd : FuncData} {x : Str} {s₁ : Shared} {vs : List Value} {ns : List Int}
    (KX : K.In s₁.heap) (hns : s₁.heap.Ns mainGlobals mg) (hb : s₁.heap.Ns builtinsNs mb) (hbb : ∀ x : Str, x ≠ "__name__" → mb x = bootBuiltins x) (hlim : s₁.heap.NoLimit) (hg : s₁.gens = #[])
    (ha : s₁.heap.get? a = some { cls := .type "list", data := .seq vs.toArray }) (hi : PyProof.Rows.IntsAre vs ns) (hl : ns.length ≤ 63) (hr : Room k callerA)
    (F : ∀ base : Heap, K.In base → base.Ns mainGlobals mg → FnG P w K mg base k fa fd [x] (spLaw K)) (hbind : ∀ (s : Shared) (u : Value), BindsTo s fd ⟨[u], []⟩ [(x, u)]) :
    codeAny (model P w) callerA (.call (.ref fa) ⟨[.ref a], []⟩) (fun r s' => r = .ok (.ret (.bool true)) ∧ OldK s₁.heap s'.heap ∧ s'.os = s₁.os ∧ PyProof.Rows.AllBare s'.gens) s₁ := by
  -- such a promise over any frame, turned to the rules' own kind
  have key : ∀ base : Heap, K.In base → base.Ns mainGlobals mg → ∀ (outer : List Env) (s : Shared) (H : Hp) (args : Args) (us : List Value) (vs : List V) (Q : VK) (E : XK),
      Env0 P w K mg base callerA outer s H → BindsTo s fd args ([x].zip us) → Vals vs us → spLaw K vs H Q E → codeAny (model P w) callerA (.call (.ref fa) args) (CR (L2.CX P w) outer P w H s Q E) s :=
    fun base h1 h2 outer s H args us vs Q E e0 hb hv hs => (F base h1 h2).run callerA outer s H args us vs Q E hr rfl e0 hb hv hs
  have rv := vals_ints hi
  have lenV := hi.length
  have lz : ns.length ≤ sizeLine := by have : (63 : Nat) ≤ sizeLine := by decide
                                       omega
  have core : ∀ H : Hp, Only H → SqL K H a (ns.map V.int) → HOk P w H s₁.heap → (∀ b, H b ≠ none → b = a) → (H a ≠ none → K.lookup a = none) →
      codeAny (model P w) callerA (.call (.ref fa) ⟨[.ref a], []⟩) (fun r s' => r = .ok (.ret (.bool true)) ∧ OldK s₁.heap s'.heap ∧ s'.os = s₁.os ∧ PyProof.Rows.AllBare s'.gens) s₁ := by
    intro H hO hS hok hA hK
    have nA : ∀ {b : Addr} {o : Obj} {es : Array DictEntry} {ep : Nat}, s₁.heap.get? b = some o → o.data = .dict es ep → H b = none := by
      intro b o es ep e d
      cases q : H b with
      | none => rfl
      | some u =>
        obtain rfl : b = a := hA b (by rw [q]; simp)
        rw [ha] at e
        cases e
        cases (show Data.seq vs.toArray _ = Data.dict es ep from d)
    have nsK : ∀ {b : Addr} {m : Str → Option Value}, s₁.heap.Ns b m → (hidT s₁.heap H).Ns b m := by
      rintro b m ⟨o, es, ep, e, d, r⟩
      exact ⟨o, es, ep, hidT_get e (nA e d), d, r⟩
    have hKb : K.In (hidT s₁.heap H) := by
      intro b o e
      refine hidT_get (KX b o e) ?_
      cases q : H b with
      | none => rfl
      | some u =>
        obtain rfl : b = a := hA b (by rw [q]; simp)
        rw [hK (by rw [q]; simp)] at e
        cases e
    have lm : (hidT s₁.heap H).NoLimit := by
      obtain ⟨mc, l1, l2⟩ := hlim
      exact ⟨mc, nsK l1, l2⟩
    have hM : Mod K mg (hidT s₁.heap H) := ⟨hKb, nsK hns, ⟨mb, nsK hb, hbb⟩, lm⟩
    have e0 : Env0 P w K mg (hidT s₁.heap H) callerA [] s₁ H := ⟨rfl, hM, fun b o e => of_hidT e, Nat.le_of_eq (hidT_size _ _), trivial, fun b hb => absurd (show b ∈ ([] : List Addr) from hb) (by simp), hok, .of_eq hg⟩
    refine codeAny_mono (key _ hKb (nsK hns) [] s₁ H ⟨[.ref a], []⟩ [.ref a] [.ref a] (fun v _ => v = .bl true) (fun _ _ _ => False) e0 (hbind s₁ (.ref a)) (.cons rfl .nil) ⟨a, ns, rfl, hS, hl, fun _ => rfl⟩) fun r s' h => ?_
    match r, h with
    | .error e, h =>
      obtain ⟨_, _, _, _, _, _, _, _, _, _, _, _, z⟩ := (show L2.CX P w [] H s₁ _ e s' from h)
      exact z.elim
    | .ok .next, h => exact False.elim h
    | .ok .brk, h => exact False.elim h
    | .ok .cont, h => exact False.elim h
    | .ok (.ret u), h =>
      obtain ⟨v, H', os, bare, un, hok', r', q⟩ := h
      obtain rfl : v = .bl true := q
      obtain rfl : u = Value.bool true := r'
      refine ⟨rfl, OldK.of_keep ?_, os, bare⟩
      intro b o e
      cases q : H b with
      | none => exact un.keep b o e q (by intro z; exact absurd (show b ∈ ([] : List Addr) from z) (by simp)) (by simp)
      | some u =>
        rcases hO b with z | ⟨ob, xs, z⟩
        · rw [q] at z; cases z
        · have z2 := un.frzs b ob _ z
          obtain ⟨e1, _⟩ := hok b _ z
          obtain ⟨e2, _⟩ := hok' b _ z2
          rw [e] at e1
          cases e1
          exact e2
  cases hk : K.lookup a with
  | some o =>
    have e := KX a o hk
    rw [ha] at e
    cases e
    refine core (fun _ => none) (fun _ => .inl rfl) (.inr ⟨_, vs.toArray, _, hk, rfl, rfl, rfl, by rw [List.size_toArray, lenV]; exact lz, by simpa using rv⟩) (fun b u z => by cases (show (none : Option HO) = some u from z)) (fun b z => absurd rfl z) fun z => absurd rfl z
  | none =>
    let Ho : Hp := fun b => if b = a then some (.frz { cls := .type "list", data := .seq vs.toArray } (.lst (ns.map V.int))) else none
    have hHo : Ho a = some (.frz { cls := .type "list", data := .seq vs.toArray } (.lst (ns.map V.int))) := if_pos rfl
    have hNo : ∀ b, b ≠ a → Ho b = none := fun b h => if_neg h
    refine core Ho (fun b => ?_) (.inl (.inr ⟨_, hHo⟩)) (fun b u z => ?_) (fun b z => ?_) fun _ => hk
    · by_cases h : b = a
      · subst h; exact .inr ⟨_, _, hHo⟩
      · exact .inl (hNo b h)
    · by_cases h : b = a
      · subst h
        rw [hHo] at z
        cases z
        exact ⟨ha, by rw [List.length_map]; exact lz, vs, _, rv, ha⟩
      · rw [hNo b h] at z; cases z
    · by_cases h : b = a
      · exact h
      · exact absurd (hNo b h) z
/-- what k_head leaves, from the law's promise -/
theorem walk_ofG {l : PySem.W.OpenLaw} {k : Nat} {q : Program} {loose : List Str} {XP : (Str → Option Value) → Heap → Prop} {YP : World → Heap → Prop} {d : DefRec} {K : Params → PySem.W.Frag} {x : Str}
    (hn : l.most = some 63) (hdf : d.params.defaults = []) (hr : Room k callerA)
    (hY : ∀ (w : World) (h : Heap), YP w h → (K w.params).In h)
    (F : ∀ (w : World) (mg : Str → Option Value) (fa : Addr) (h : Heap), (K w.params).In h → h.Ns mainGlobals mg → mg d.name = some (.ref fa) →
      ∃ fd : FuncData, (∀ (s : Shared) (u : Value), BindsTo s fd ⟨[u], []⟩ [(x, u)]) ∧ ∀ base : Heap, (K w.params).In base → base.Ns mainGlobals mg → FnG l.prog w (K w.params) mg base k fa fd [x] (spLaw (K w.params))) :
    PySem.W.WalkO q loose XP YP l.row.toRowW d [] (fun f vs => PySem.call f vs) := by
  refine Att.attach_call hn hdf ?_
  intro w s₀ s₁ mg mb fa o pm cd doc a vs ns G Y ho hd hcd hmg hobj hints hlen hg
  obtain ⟨fd, hb, hF⟩ := F w mg fa _ (hY w _ Y) G.T.g hmg
  exact law_callG (hY w _ Y) G.T.g G.T.b G.T.builtins G.T.nolimit hg hobj hints hlen hr hF hb
end DL
namespace DL
open PySem PySem.Spec L2
/-- a def as the top has left it -/
def DK (K : PySem.W.Frag) (x : Str) (st : Stmt) : Prop := ∃ (f : Addr) (oc : Value) (od an : Option Addr) (sl : Array (Option Value)) (kV dc pm cd ct : Value),
  PySem.W.nsIn K mainGlobals x = some (some (.ref f)) ∧ K.lookup f = some ⟨oc, od, .func (PySem.W.fnOf x x (defArgs st) (defBody st) (defScope st) .none kV dc pm an cd ct), sl⟩ ∧ PySem.W.codeIn K cd x = true ∧ PySem.W.keepIn K (.ref f) = true
theorem dk_mk {K : PySem.W.Frag} {x : Str} {st : Stmt} {f : Addr} {oc : Value} {od an : Option Addr} {sl : Array (Option Value)} {kV dc pm cd ct : Value} (a : PySem.W.nsIn K mainGlobals x = some (some (.ref f)))
    (l : K.lookup f = some ⟨oc, od, .func (PySem.W.fnOf x x (defArgs st) (defBody st) (defScope st) .none kV dc pm an cd ct), sl⟩) (c : PySem.W.codeIn K cd x = true) (k : PySem.W.keepIn K (.ref f) = true) : DK K x st := ⟨f, oc, od, an, sl, kV, dc, pm, cd, ct, a, l, c, k⟩
theorem DK.fn {K : PySem.W.Frag} {x : Str} {st : Stmt} {h : Heap} {mg : Str → Option Value} (d : DK K x st) (X : K.In h) (G : h.Ns mainGlobals mg) :
    ∃ f fd, mg x = some (.ref f) ∧ PySem.W.keepIn K (.ref f) = true ∧ Fun K x x st f fd := by
  obtain ⟨f, oc, od, an, sl, kV, dc, pm, cd, ct, a, l, c, k⟩ := d
  exact ⟨f, _, PySem.W.mg_of X G a, k, fun_mk l c k⟩
/-- how such a def binds -/
def BindsAs (x : Str) (st : Stmt) (ps : List Str) : Prop := ∀ (kV doc pm : Value) (an : Option Addr) (cdv ct : Value) (us : List Value), us.length = ps.length → bindArgs (PySem.W.fnOf x x (defArgs st) (defBody st) (defScope st) .none kV doc pm an cdv ct) ⟨us, []⟩ = pure (ps.zip us)
theorem txt_at {P : Program} {w : World} {K : PySem.W.Frag} {XR : XRT} {h : Heap} {mg : Str → Option Value} {base : Heap} {defs : List Str} {x : Str} {st : Stmt} {ps : List Str} {cx : Cxt} {b : Sl} {np nn : Nat} (d : DK K x st) (X : K.In h) (G : h.Ns mainGlobals mg)
    (bd : BindsAs x st ps) (hp : ps.length = np) (S : FnScope cx.N ps (defScope st)) (hsc : defScope st = cx.sc) (hf : cx.fnb = fun _ => true) (hn : cx.N.length = nn) (hd : cx.defs = defs) (hc : chkSl cx b (defBody st) = true) : DefAt P w K XR mg base defs x (.txt np nn b) := by
  obtain ⟨f, fd, h1, h2, h3⟩ := d.fn X G
  exact ⟨f, fd, ps, h1, h2, h3.binds bd, hp, st, x, cx, h3, S, hsc, hf, hn, hd, hc⟩
theorem nat_at {P : Program} {w : World} {K : PySem.W.Frag} {XR : XRT} {h : Heap} {mg : Str → Option Value} {base : Heap} {defs : List Str} {x : Str} {st : Stmt} {ps : List Str} {np k0 : Nat} {g : List EV → Wd → CRes} (d : DK K x st) (X : K.In h) (G : h.Ns mainGlobals mg)
    (bd : BindsAs x st ps) (hp : ps.length = np) (hF : ∀ f fd, Fun K x x st f fd → FnG P w K mg base k0 f fd ps (SpD K XR np g)) : DefAt P w K XR mg base defs x (.nat np k0 g) := by
  obtain ⟨f, fd, h1, h2, h3⟩ := d.fn X G
  exact ⟨f, fd, ps, h1, h2, h3.binds bd, hp, hF f fd h3⟩
end DL

set_option Elab.async false
set_option linter.all false
set_option maxRecDepth 100000
set_option maxHeartbeats 4000000
set_option autoImplicit false
namespace DL
open PySem PySem.Spec L2

/-! ### the evaluation's equations, where all is applied -/
theorem e_ev_var (fn : Fns) (i : Nat) (env : Nv) (w : Wd) : ev fn (.var i) env w = match env[i]? with
    | some (some (.fz d)) => .ok (.fz d) env w
    | some (some (.lst _)) => .ok (.bor i) env w
    | some (some .src) => .ok .src env w
    | _ => .stuck := by first | (simp only [ev]; done) | (simp only [ev]; rfl)
theorem e_ev_cI (fn : Fns) (i : Int) (env : Nv) (w : Wd) : ev fn (.cI i) env w = .ok (.fz (.int i)) env w := by first | (simp only [ev]; done) | (simp only [ev]; rfl)
theorem e_ev_cS (fn : Fns) (s : Str) (env : Nv) (w : Wd) : ev fn (.cS s) env w = .ok (.fz (.str s)) env w := by first | (simp only [ev]; done) | (simp only [ev]; rfl)
theorem e_ev_cN (fn : Fns)  (env : Nv) (w : Wd) : ev fn .cN env w = .ok (.fz .none) env w := by first | (simp only [ev]; done) | (simp only [ev]; rfl)
theorem e_ev_cB (fn : Fns) (b : Bool) (env : Nv) (w : Wd) : ev fn (.cB b) env w = .ok (.fz (.bool b)) env w := by first | (simp only [ev]; done) | (simp only [ev]; rfl)
theorem e_ev_neg (fn : Fns) (a : E) (env : Nv) (w : Wd) : ev fn (.neg a) env w = (ev fn a env w).bind fun x e1 w1 => match dval e1 x with
    | some (.int i) => .ok (.fz (.int (-i))) e1 w1
    | _ => .stuck := by first | (simp only [ev]; done) | (simp only [ev]; rfl)
theorem e_ev_tup (fn : Fns) (es : Es) (env : Nv) (w : Wd) : ev fn (.tup es) env w = (evs fn es env w).bind fun xs e1 w1 => match escD e1 xs with
    | some (ds, e2) => if ds.length ≤ sizeLine then .ok (.fz (.tuple ds)) e2 w1 else .stuck
    | none => .stuck := by first | (simp only [ev]; done) | (simp only [ev]; rfl)
theorem e_ev_lst (fn : Fns) (es : Es) (env : Nv) (w : Wd) : ev fn (.lst es) env w = (evs fn es env w).bind fun xs e1 w1 => match escD e1 xs with
    | some (ds, e2) => if ds.length ≤ sizeLine then .ok (.lst ds) e2 w1 else .stuck
    | none => .stuck := by first | (simp only [ev]; done) | (simp only [ev]; rfl)
theorem e_ev_bin (fn : Fns) (op : Bop) (a b : E) (env : Nv) (w : Wd) : ev fn (.bin op a b) env w = (ev fn a env w).bind fun x e1 w1 => (ev fn b e1 w1).bind fun y e2 w2 => match dval e2 x, dval e2 y with
    | some d, some e => pick1 (binD op d e) e2 w2
    | _, _ => .stuck := by first | (simp only [ev]; done) | (simp only [ev]; rfl)
theorem e_ev_cmp (fn : Fns) (op : Cop) (a b : E) (env : Nv) (w : Wd) : ev fn (.cmp op a b) env w = (ev fn a env w).bind fun x e1 w1 => (ev fn b e1 w1).bind fun y e2 w2 => match dval e2 x, dval e2 y with
    | some d, some e => pick1 ((cmpD op d e).map fun c => .fz (.bool c)) e2 w2
    | _, _ => .stuck := by first | (simp only [ev]; done) | (simp only [ev]; rfl)
theorem e_ev_chn (fn : Fns) (op op2 : Cop) (a b c : E) (env : Nv) (w : Wd) : ev fn (.chn op op2 a b c) env w = (ev fn a env w).bind fun x e1 w1 => (ev fn b e1 w1).bind fun y e2 w2 => match dval e2 x, dval e2 y with
    | some d, some e => chnK (cmpD op d e) ((ev fn c e2 w2).bind fun z e3 w3 => match dval e3 y, dval e3 z with
        | some e', some g => pick1 ((cmpD op2 e' g).map fun c => .fz (.bool c)) e3 w3
        | _, _ => .stuck) (.ok (.fz (.bool false)) e2 w2)
    | _, _ => .stuck := by first | (simp only [ev]; done) | (simp only [ev]; rfl)
theorem e_ev_and (fn : Fns) (es : Es) (env : Nv) (w : Wd) : ev fn (.and es) env w = evAnd fn es env w := by first | (simp only [ev]; done) | (simp only [ev]; rfl)
theorem e_ev_or (fn : Fns) (es : Es) (env : Nv) (w : Wd) : ev fn (.or es) env w = evOr fn es env w := by first | (simp only [ev]; done) | (simp only [ev]; rfl)
theorem e_ev_not (fn : Fns) (a : E) (env : Nv) (w : Wd) : ev fn (.not a) env w = (ev fn a env w).bind fun v e1 w1 => match v with
    | .fz (.bool b) => .ok (.fz (.bool (!b))) e1 w1
    | _ => .stuck := by first | (simp only [ev]; done) | (simp only [ev]; rfl)
theorem e_ev_ite (fn : Fns) (t a b : E) (env : Nv) (w : Wd) : ev fn (.ite t a b) env w = (tst (ev fn t env w)).bind fun c e1 w1 => if c = true then ev fn a e1 w1 else ev fn b e1 w1 := by first | (simp only [ev]; done) | (simp only [ev]; rfl)
theorem e_ev_sub (fn : Fns) (a i : E) (env : Nv) (w : Wd) : ev fn (.sub a i) env w = (ev fn a env w).bind fun x e1 w1 => (ev fn i e1 w1).bind fun y e2 w2 => match dval e2 x, dval e2 y with
    | some d, some e => pick1 ((subD d e).map .fz) e2 w2
    | _, _ => .stuck := by first | (simp only [ev]; done) | (simp only [ev]; rfl)
theorem e_ev_slc (fn : Fns) (a : E) (lo hi : OE) (env : Nv) (w : Wd) : ev fn (.slc a lo hi) env w = (ev fn a env w).bind fun x e1 w1 => (evO fn lo e1 w1).bind fun l e2 w2 => (evO fn hi e2 w2).bind fun h e3 w3 => match dval e3 x with
    | some d => pick1 (slcD d l h) e3 w3
    | _ => .stuck := by first | (simp only [ev]; done) | (simp only [ev]; rfl)
theorem e_ev_rev (fn : Fns) (a : E) (env : Nv) (w : Wd) : ev fn (.rev a) env w = (ev fn a env w).bind fun x e1 w1 => match dval e1 x with
    | some d => pick1 (revD d) e1 w1
    | _ => .stuck := by first | (simp only [ev]; done) | (simp only [ev]; rfl)
theorem e_ev_call (fn : Fns) (f : Nat) (es : Es) (env : Nv) (w : Wd) : ev fn (.call f es) env w = (evs fn es env w).bind fun xs e1 w1 => match escA e1 xs with
    | some (as, e2) => endC e2 (fn f as w1)
    | none => .stuck := by first | (simp only [ev]; done) | (simp only [ev]; rfl)
theorem e_ev_bi (fn : Fns) (b : Bi) (es : Es) (env : Nv) (w : Wd) : ev fn (.bi b es) env w = (evs fn es env w).bind fun xs e1 w1 => match xs.mapM (dval e1) with
    | some ds => pick1 (biD b ds) e1 w1
    | none => .stuck := by first | (simp only [ev]; done) | (simp only [ev]; rfl)
theorem e_ev_isi (fn : Fns) (a : E) (t : Ty) (env : Nv) (w : Wd) : ev fn (.isi a t) env w = (ev fn a env w).bind fun x e1 w1 => match dval e1 x with
    | some d => .ok (.fz (.bool (isiD t d))) e1 w1
    | none => .stuck := by first | (simp only [ev]; done) | (simp only [ev]; rfl)
theorem e_ev_index (fn : Fns) (a b : E) (env : Nv) (w : Wd) : ev fn (.index a b) env w = .stuck := by first | (simp only [ev]; done) | (simp only [ev]; rfl)
theorem e_ev_pop (fn : Fns) (i : Nat) (env : Nv) (w : Wd) : ev fn (.pop i) env w = match env[i]? with
    | some (some (.lst ds)) => match ds[ds.length - 1]? with
      | some d => .ok (.fz d) (env.set i (some (.lst ds.dropLast))) w
      | none => .stuck
    | _ => .stuck := by first | (simp only [ev]; done) | (simp only [ev]; rfl)
theorem e_ev_popAt (fn : Fns) (i : Nat) (a : E) (env : Nv) (w : Wd) : ev fn (.popAt i a) env w = match env[i]? with
    | some (some (.lst _)) => (ev fn a env w).bind fun x e1 w1 => popI i x e1 w1
    | _ => .stuck := by first | (simp only [ev]; done) | (simp only [ev]; rfl)
theorem e_ev_lc (fn : Fns) (own : List (Str × Nat)) (tg : Tg) (it : IE) (ifs : Es) (elt : E) (env : Nv) (w : Wd) : ev fn (.lc own tg it ifs elt) env w = (evI fn it env w).bind fun ds e1 w1 =>
      (noX (lcGo tg (own.map (·.2)) (ds.hold e1) (evT fn ifs) (ev fn elt) ds.items [] (wipeE e1 (own.map (·.2))) w1)).bind fun xs e2 w2 => .ok (.lst xs) (keepE e1 e2 (own.map (·.2))) w2 := by first | (simp only [ev]; done) | (simp only [ev]; rfl)
theorem e_evs_nil (fn : Fns) (env : Nv) (w : Wd) : evs fn .nil env w = .ok [] env w := by simp only [evs]
theorem e_evs_cons (fn : Fns) (e : E) (es : Es) (env : Nv) (w : Wd) : evs fn (.cons e es) env w = (ev fn e env w).bind fun x e1 w1 => (evs fn es e1 w1).bind fun xs e2 w2 => .ok (x :: xs) e2 w2 := by first | (simp only [evs]; done) | (simp only [evs]; rfl)
theorem e_evAnd_one (fn : Fns) (e : E) (env : Nv) (w : Wd) : evAnd fn (.cons e .nil) env w = ev fn e env w := by first | (simp only [evAnd]; done) | (simp only [evAnd]; rfl)
theorem e_evAnd_more (fn : Fns) (e e' : E) (r : Es) (env : Nv) (w : Wd) : evAnd fn (.cons e (.cons e' r)) env w = (ev fn e env w).bind (andK fun e1 w1 => evAnd fn (.cons e' r) e1 w1) := by first | (simp only [evAnd]; done) | (simp only [evAnd]; rfl)
theorem e_evOr_one (fn : Fns) (e : E) (env : Nv) (w : Wd) : evOr fn (.cons e .nil) env w = ev fn e env w := by first | (simp only [evOr]; done) | (simp only [evOr]; rfl)
theorem e_evOr_more (fn : Fns) (e e' : E) (r : Es) (env : Nv) (w : Wd) : evOr fn (.cons e (.cons e' r)) env w = (ev fn e env w).bind (orK fun e1 w1 => evOr fn (.cons e' r) e1 w1) := by first | (simp only [evOr]; done) | (simp only [evOr]; rfl)
theorem e_evT_nil (fn : Fns)  (env : Nv) (w : Wd) : evT fn .nil env w = .ok true env w := by first | (simp only [evT]; done) | (simp only [evT]; rfl)
theorem e_evT_one (fn : Fns) (e : E) (env : Nv) (w : Wd) : evT fn (.cons e .nil) env w = tst (ev fn e env w) := by first | (simp only [evT]; done) | (simp only [evT]; rfl)
theorem e_evO_no (fn : Fns)  (env : Nv) (w : Wd) : evO fn .no env w = .ok none env w := by first | (simp only [evO]; done) | (simp only [evO]; rfl)
theorem e_evO_yes (fn : Fns) (e : E) (env : Nv) (w : Wd) : evO fn (.yes e) env w = (ev fn e env w).bind fun x e1 w1 => match x with
    | .fz (.int i) => .ok (some i) e1 w1
    | _ => .stuck := by first | (simp only [evO]; done) | (simp only [evO]; rfl)
theorem e_evI_seq (fn : Fns) (e : E) (env : Nv) (w : Wd) : evI fn (.seq e) env w = (ev fn e env w).bind fun x e1 w1 => match seqK e1 x id with
    | some (k, e2) => .ok k e2 w1
    | none => .stuck := by first | (simp only [evI]; done) | (simp only [evI]; rfl)
theorem e_evI_rng1 (fn : Fns) (a : E) (env : Nv) (w : Wd) : evI fn (.rng1 a) env w = (ev fn a env w).bind fun x e1 w1 => match x with
    | .fz (.int j) => if -(2 ^ 62) ≤ j ∧ j < 2 ^ 62 then .ok ⟨rngL 0 j.toNat, none, []⟩ e1 w1 else .stuck
    | _ => .stuck := by first | (simp only [evI]; done) | (simp only [evI]; rfl)
theorem e_evI_rng2 (fn : Fns) (a b : E) (env : Nv) (w : Wd) : evI fn (.rng2 a b) env w = (ev fn a env w).bind fun x e1 w1 => (ev fn b e1 w1).bind fun y e2 w2 => match x, y with
    | .fz (.int i), .fz (.int j) => if -(2 ^ 62) ≤ i ∧ i < 2 ^ 62 ∧ -(2 ^ 62) ≤ j ∧ j < 2 ^ 62 then .ok ⟨rngL i (j - i).toNat, none, []⟩ e2 w2 else .stuck
    | _, _ => .stuck := by first | (simp only [evI]; done) | (simp only [evI]; rfl)
theorem e_evI_enm (fn : Fns) (e : E) (env : Nv) (w : Wd) : evI fn (.enm e) env w = (ev fn e env w).bind fun x e1 w1 => match seqK e1 x enmL with
    | some (k, e2) => .ok k e2 w1
    | none => .stuck := by first | (simp only [evI]; done) | (simp only [evI]; rfl)
theorem e_evI_zp (fn : Fns) (a b : E) (env : Nv) (w : Wd) : evI fn (.zp a b) env w = .stuck := by first | (simp only [evI]; done) | (simp only [evI]; rfl)
theorem e_xS_asg (fn : Fns) (tg : Tg) (e : E) (env : Nv) (w : Wd) : xS fn (.asg tg e) env w = (ev fn e env w).toS fun v e1 w1 => match esc1 e1 v with
    | some (d, e2) => goS (asgT e2 tg d) w1
    | none => .stuck := by first | (simp only [xS]; done) | (simp only [xS]; rfl)
theorem e_xS_set (fn : Fns) (i : Nat) (e : E) (env : Nv) (w : Wd) : xS fn (.set i e) env w = (ev fn e env w).toS fun v e1 w1 => goS (setV e1 i v) w1 := by first | (simp only [xS]; done) | (simp only [xS]; rfl)
theorem e_xS_par (fn : Fns) (i j : Nat) (a b : E) (env : Nv) (w : Wd) : xS fn (.par i j a b) env w = (ev fn a env w).toS fun x e1 w1 => (ev fn b e1 w1).toS fun y e2 w2 => parS i j x y e2 w2 := by first | (simp only [xS]; done) | (simp only [xS]; rfl)
theorem e_xS_par3 (fn : Fns) (i j k : Nat) (a b c : E) (env : Nv) (w : Wd) : xS fn (.par3 i j k a b c) env w = (ev fn a env w).toS fun x e1 w1 => (ev fn b e1 w1).toS fun y e2 w2 => (ev fn c e2 w2).toS fun z e3 w3 => parS3 i j k x y z e3 w3 := by first | (simp only [xS]; done) | (simp only [xS]; rfl)
theorem e_xS_exp (fn : Fns) (e : E) (env : Nv) (w : Wd) : xS fn (.exp e) env w = (ev fn e env w).toS fun _ e1 w1 => .nx e1 w1 := by first | (simp only [xS]; done) | (simp only [xS]; rfl)
theorem e_xS_app (fn : Fns) (i : Nat) (e : E) (env : Nv) (w : Wd) : xS fn (.app i e) env w = match env[i]? with
    | some (some (.lst _)) => (ev fn e env w).toS fun v e1 w1 => appI i v e1 w1
    | _ => .stuck := by first | (simp only [xS]; done) | (simp only [xS]; rfl)
theorem e_xS_ext (fn : Fns) (i : Nat) (e : E) (env : Nv) (w : Wd) : xS fn (.ext i e) env w = .stuck := by first | (simp only [xS]; done) | (simp only [xS]; rfl)
theorem e_xS_setIx (fn : Fns) (i : Nat) (k e : E) (env : Nv) (w : Wd) : xS fn (.setIx i k e) env w = .stuck := by first | (simp only [xS]; done) | (simp only [xS]; rfl)
theorem e_xS_ret (fn : Fns) (e : E) (env : Nv) (w : Wd) : xS fn (.ret e) env w = (ev fn e env w).toS fun v e1 w1 => match retV e1 v with
    | some v => .rt v w1
    | none => .stuck := by first | (simp only [xS]; done) | (simp only [xS]; rfl)
theorem e_xS_ife (fn : Fns) (t : E) (a b : Sl) (env : Nv) (w : Wd) : xS fn (.ife t a b) env w = (tst (ev fn t env w)).toS fun c e1 w1 => if c = true then xsl fn a e1 w1 else xsl fn b e1 w1 := by first | (simp only [xS]; done) | (simp only [xS]; rfl)
theorem e_xS_whl (fn : Fns) (t : E) (b : Sl) (env : Nv) (w : Wd) : xS fn (.whl t b) env w = whS (fun env w => tst (ev fn t env w)) (xsl fn b) env w := by first | (simp only [xS]; done) | (simp only [xS]; rfl)
theorem e_xS_for_ (fn : Fns) (tg : Tg) (it : IE) (b : Sl) (env : Nv) (w : Wd) : xS fn (.for_ tg it b) env w = (evI fn it env w).toS fun k e1 w1 => match frzK k e1 with
    | some e2 => forGo tg (xsl fn b) k.items e2 w1
    | none => .stuck := by first | (simp only [xS]; done) | (simp only [xS]; rfl)
theorem e_xS_pas (fn : Fns)  (env : Nv) (w : Wd) : xS fn .pas env w = .nx env w := by first | (simp only [xS]; done) | (simp only [xS]; rfl)
theorem e_xS_brk (fn : Fns)  (env : Nv) (w : Wd) : xS fn .brk env w = .bk env w := by first | (simp only [xS]; done) | (simp only [xS]; rfl)
theorem e_xS_cnt (fn : Fns)  (env : Nv) (w : Wd) : xS fn .cnt env w = .ct env w := by first | (simp only [xS]; done) | (simp only [xS]; rfl)
theorem e_xS_nev (fn : Fns)  (env : Nv) (w : Wd) : xS fn .nev env w = .stuck := by first | (simp only [xS]; done) | (simp only [xS]; rfl)
theorem e_xsl_nil (fn : Fns)  (env : Nv) (w : Wd) : xsl fn .nil env w = .nx env w := by first | (simp only [xsl]; done) | (simp only [xsl]; rfl)
theorem e_xsl_cons (fn : Fns) (s : S) (r : Sl) (env : Nv) (w : Wd) : xsl fn (.cons s r) env w = (xS fn s env w).seq (xsl fn r) := by first | (simp only [xsl]; done) | (simp only [xsl]; rfl)
end DL

set_option Elab.async false
set_option linter.all false
set_option maxRecDepth 100000
set_option maxHeartbeats 4000000
set_option exponentiation.threshold 1000
set_option autoImplicit false
namespace DL
open PySem PySem.Spec L2

/-! ### what a def of a table tells -/
def endS : SR → CRes
  | .nx _ w => .ok (.fz .none) w
  | .rt v w => .ok v w
  | .exc x _ w => .exc x w
  | _ => .stuck
theorem fnAt_txt {T : List Dfe} {f np nn : Nat} {b : Sl} (h : T[f]? = some (.txt np nn b)) (hn : nn ≤ TT0) (k : Nat) (as : List EV) (w : Wd) (hl : as.length = np) :
    fnAt T (k + 1) f as w = endS (xsl (fnAt T k) b (argE nn as) w) := by
  simp only [fnAt, h]
  unfold runB
  rw [if_pos ⟨hl, hn⟩]
  cases xsl (fnAt T k) b (argE nn as) w <;> rfl
theorem fnAt_nat {T : List Dfe} {f np k0 : Nat} {g : List EV → Wd → CRes} (h : T[f]? = some (.nat np k0 g)) (k : Nat) (hk : k0 ≤ k + 1) (as : List EV) (w : Wd) (hl : as.length = np) : fnAt T (k + 1) f as w = g as w := by
  simp only [fnAt, h]
  rw [if_pos ⟨hk, hl⟩]

/-! ### numbers -/
theorem atI_lit (ds : List PyData) (n : Nat) : L2.atI ds ((no_index (OfNat.ofNat n)) : Int) = ds[n]? := by
  have e : ((OfNat.ofNat n) : Int) = ((n : Nat) : Int) := rfl
  rw [e]
  unfold L2.atI ixN
  rw [if_pos (by omega)]
  by_cases h : n < ds.length
  · rw [if_pos (by omega)]
    simp
  · rw [if_neg (by omega)]
    rw [List.getElem?_eq_none (by omega)]
    rfl
theorem atI_nat (ds : List PyData) (n : Nat) : L2.atI ds ((n : Nat) : Int) = ds[n]? := atI_lit ds n
def Sm (i : Int) : Prop := -(2 ^ 64) ≤ i ∧ i ≤ 2 ^ 64
theorem mul_ok {i j : Int} (h1 : -(2 ^ 200) ≤ i ∧ i ≤ 2 ^ 200) (h2 : -(2 ^ 200) ≤ j ∧ j ≤ 2 ^ 200) : i.natAbs.log2 + j.natAbs.log2 < 1000000 := by
  have f : ∀ x : Int, -(2 ^ 200) ≤ x ∧ x ≤ 2 ^ 200 → x.natAbs.log2 < 400 := by
    intro x h
    by_cases z : x.natAbs = 0
    · rw [z]; decide
    · exact (Nat.log2_lt z).mpr (Nat.lt_of_le_of_lt (show x.natAbs ≤ 2 ^ 200 by omega) (by decide))
  have := f i h1
  have := f j h2
  omega

/-! ### blocks and loops that leave all as it stands -/
theorem lc_pure {tg : Tg} {vs : List Nat} {hd : Option (Nat × List PyData)} {c : Mo Bool} {f : Mo EV} {env : Nv} {w : Wd} {p : PyData → Bool} {x : PyData → PyData} (hh : Held hd env) :
    ∀ (ds acc : List PyData), acc.length + ds.length ≤ sizeLine →
      (∀ d, d ∈ ds → ∃ E, asgT env tg d = some E ∧ c E w = .ok (p d) E w ∧ (p d = true → ∃ v, f E w = .ok v E w ∧ esc1 E v = some (x d, E)) ∧ wipeE E vs = env) →
      lcGo tg vs hd c f ds acc env w = .ok (acc ++ (ds.filter p).map x) env w
  | [], acc, _, _ => by
    simp only [lcGo]
    rw [if_pos hh]
    simp
  | d :: ds, acc, hl, hs => by
    obtain ⟨E, h1, h2, h3, h4⟩ := hs d (by simp)
    simp only [lcGo]
    rw [if_pos hh, h1]
    simp only [h2, Res.bind]
    rw [List.length_cons] at hl
    by_cases hp : p d = true
    · obtain ⟨v, h5, h6⟩ := h3 hp
      rw [if_pos hp]
      simp only [h5, h6]
      rw [if_pos (by omega), h4, lc_pure hh ds (acc ++ [x d]) (by simp; omega) fun e he => hs e (by simp [he])]
      simp [List.filter_cons, hp]
    · rw [if_neg hp, h4, lc_pure hh ds acc (by omega) fun e he => hs e (by simp [he])]
      simp [List.filter_cons, hp]
/-- the same with no test -/
theorem lc_map {tg : Tg} {vs : List Nat} {hd : Option (Nat × List PyData)} {fn : Fns} {f : Mo EV} {env : Nv} {w : Wd} {x : PyData → PyData} (hh : Held hd env) (ds : List PyData) (hl : ds.length ≤ sizeLine)
    (hs : ∀ d, d ∈ ds → ∃ E v, asgT env tg d = some E ∧ f E w = .ok v E w ∧ esc1 E v = some (x d, E) ∧ wipeE E vs = env) :
    lcGo tg vs hd (evT fn .nil) f ds [] env w = .ok (ds.map x) env w := by
  have := lc_pure (tg := tg) (vs := vs) (c := evT fn .nil) (f := f) (p := fun _ => true) (x := x) hh ds [] (by simpa using hl) fun d hd => by
    obtain ⟨E, v, h1, h2, h3, h4⟩ := hs d hd
    exact ⟨E, h1, rfl, fun _ => ⟨v, h2, h3⟩, h4⟩
  have e : (ds.filter fun _ => true) = ds := List.filter_eq_self.mpr (by simp)
  rw [e] at this
  simpa using this
/-- a for that looks for a first one -/
theorem for_find {tg : Tg} {b : Nv → Wd → SR} {w : Wd} {J : Nv → Prop} {g : PyData → Option EV} :
    ∀ (ds : List PyData) (env : Nv), J env →
      (∀ d, d ∈ ds → ∀ env, J env → ∃ e1, asgT env tg d = some e1 ∧ match g d with
        | some v => b e1 w = .rt v w
        | none => ∃ e2, b e1 w = .nx e2 w ∧ J e2) →
      match ds.findSome? g with
      | some v => forGo tg b ds env w = .rt v w
      | none => ∃ e2, forGo tg b ds env w = .nx e2 w ∧ J e2
  | [], env, hj, _ => ⟨env, rfl, hj⟩
  | d :: ds, env, hj, hs => by
    obtain ⟨e1, h1, h2⟩ := hs d (by simp) env hj
    simp only [forGo, h1, List.findSome?_cons]
    cases q : g d with
    | some v =>
      rw [q] at h2
      simp only [h2]
    | none =>
      rw [q] at h2
      obtain ⟨e2, h3, h4⟩ := h2
      simp only [h3]
      exact for_find ds e2 h4 fun d' hd' => hs d' (by simp [hd'])
/-- a for whose body turns one state to another: F of the items before -/
theorem for_fold {α : Type} {tg : Tg} {b : Nv → Wd → SR} {J : α → Nv → Wd → Prop} {step : α → PyData → α} :
    ∀ (ds : List PyData) (a : α) (env : Nv) (w : Wd), J a env w →
      (∀ d, d ∈ ds → ∀ a env w, J a env w → ∃ e1, asgT env tg d = some e1 ∧ ∃ e2 w2, (b e1 w = .nx e2 w2 ∨ b e1 w = .ct e2 w2) ∧ J (step a d) e2 w2) →
      ∃ e2 w2, forGo tg b ds env w = .nx e2 w2 ∧ J (ds.foldl step a) e2 w2
  | [], a, env, w, hj, _ => ⟨env, w, rfl, hj⟩
  | d :: ds, a, env, w, hj, hs => by
    obtain ⟨e1, h1, e2, w2, h2, h3⟩ := hs d (by simp) a env w hj
    simp only [forGo, h1]
    rcases h2 with h2 | h2 <;> simp only [h2] <;> exact for_fold ds (step a d) e2 w2 h3 fun d' hd' => hs d' (by simp [hd'])

/-! ### the steps of the evaluation, where it is known what stands there -/
section
variable {α β : Type} {env e : Nv} {w : Wd} {d : PyData} {ds es : List PyData} {i j : Int} {n : Nat}
theorem q_bind (a : α) (k : α → Nv → Wd → Res β) : (Res.ok a e w).bind k = k a e w := Eq.trans rfl rfl
theorem q_toS (a : α) (k : α → Nv → Wd → SR) : (Res.ok a e w).toS k = k a e w := Eq.trans rfl rfl
theorem q_seq1 (k : Nv → Wd → SR) : (SR.nx e w).seq k = k e w := Eq.trans rfl rfl
theorem q_seq2 (v : EV) (k : Nv → Wd → SR) : (SR.rt v w).seq k = .rt v w := Eq.trans rfl rfl
theorem q_seq3 (k : Nv → Wd → SR) : (SR.bk e w).seq k = .bk e w := Eq.trans rfl rfl
theorem q_seq4 (k : Nv → Wd → SR) : (SR.ct e w).seq k = .ct e w := Eq.trans rfl rfl
theorem q_end1 (v : EV) : endS (.rt v w) = .ok v w := Eq.trans rfl rfl
theorem q_end2 : endS (.nx e w) = .ok (.fz .none) w := Eq.trans rfl rfl
theorem q_tst (b : Bool) : tst (.ok (.fz (.bool b)) e w) = .ok b e w := Eq.trans rfl rfl
theorem q_pick (z : EV) : pick1 (some z) e w = .ok z e w := Eq.trans rfl rfl
theorem q_ret1 : retV env (.fz d) = some (.fz d) := Eq.trans rfl rfl
theorem q_ret2 : retV env (.lst ds) = some (.lst ds) := Eq.trans rfl rfl
theorem q_ret3 : retV env .src = some .src := Eq.trans rfl rfl
theorem q_ret4 (h : env[n]? = some (some (.lst ds))) : retV env (.bor n) = some (.lst ds) := by simp only [retV, h]
theorem q_dv1 : dval env (.fz d) = some d := Eq.trans rfl rfl
theorem q_dv2 : dval env (.lst ds) = some (.list ds) := Eq.trans rfl rfl
theorem q_dv3 (h : env[n]? = some (some (.lst ds))) : dval env (.bor n) = some (.list ds) := by simp only [dval, h]
theorem q_es1 : esc1 env (.fz d) = some (d, env) := Eq.trans rfl rfl
theorem q_es2 : esc1 env (.lst ds) = some (.list ds, env) := Eq.trans rfl rfl
theorem q_es3 (h : env[n]? = some (some (.lst ds))) : esc1 env (.bor n) = some (.list ds, env.set n (some (.fz (.list ds)))) := by simp only [esc1, h]
theorem q_ea1 (xs : List EV) : escA env (.src :: xs) = match escA env xs with
    | none => none
    | some (ds, e2) => some (.src :: ds, e2) := Eq.trans rfl rfl
theorem q_ea2 (xs : List EV) : escA env (.fz d :: xs) = match escA env xs with
    | none => none
    | some (ds, e2) => some (.fz d :: ds, e2) := Eq.trans rfl rfl
theorem q_ea3 (xs : List EV) : escA env (.lst ds :: xs) = match escA env xs with
    | none => none
    | some (zs, e2) => some (.fz (.list ds) :: zs, e2) := Eq.trans rfl rfl
theorem q_ea4 (h : env[n]? = some (some (.lst ds))) (xs : List EV) : escA env (.bor n :: xs) = match escA (env.set n (some (.fz (.list ds)))) xs with
    | none => none
    | some (zs, e2) => some (.fz (.list ds) :: zs, e2) := by
  rw [escA_ne (by intro q; cases q)]
  first | (simp only [esc1, h]; done) | (simp only [esc1, h]; rfl)
theorem q_ea0 : escA env [] = some ([], env) := Eq.trans rfl rfl
theorem q_ec1 (v : EV) : endC e (.ok v w) = .ok v e w := Eq.trans rfl rfl
theorem q_add : binD .add (.int i) (.int j) = some (.fz (.int (i + j))) := Eq.trans rfl rfl
theorem q_sub : binD .sub (.int i) (.int j) = some (.fz (.int (i - j))) := Eq.trans rfl rfl
theorem q_mul (h : i.natAbs.log2 + j.natAbs.log2 < 1000000) : binD .mul (.int i) (.int j) = some (.fz (.int (i * j))) := if_pos h
theorem q_div (h : 0 < j ∧ j.natAbs.log2 < 9000) : binD .fdiv (.int i) (.int j) = some (.fz (.int (i / j))) := if_pos h
theorem q_mod (h : 0 < j) : binD .mod (.int i) (.int j) = some (.fz (.int (i % j))) := if_pos h
theorem q_catT (h : ds.length + es.length ≤ sizeLine) : binD .add (.tuple ds) (.tuple es) = some (.fz (.tuple (ds ++ es))) := if_pos h
theorem q_catL (h : ds.length + es.length ≤ sizeLine) : binD .add (.list ds) (.list es) = some (.lst (ds ++ es)) := if_pos h
theorem q_repL (h : -(2 ^ 63) ≤ j ∧ j < 2 ^ 63 ∧ ds.length * j.toNat ≤ sizeLine) : binD .mul (.list ds) (.int j) = some (.lst (List.replicate j.toNat ds).flatten) := if_pos h
theorem q_lt : cmpD .lt (.int i) (.int j) = some (decide (i < j)) := Eq.trans rfl rfl
theorem q_le : cmpD .le (.int i) (.int j) = some (decide (i ≤ j)) := Eq.trans rfl rfl
theorem q_gt : cmpD .gt (.int i) (.int j) = some (decide (j < i)) := Eq.trans rfl rfl
theorem q_ge : cmpD .ge (.int i) (.int j) = some (decide (j ≤ i)) := Eq.trans rfl rfl
theorem q_eqI : cmpD .eq (.int i) (.int j) = some (decide (i = j)) := by
  show some (i == j) = _
  rw [Bool.beq_eq_decide_eq]
theorem q_neI : cmpD .ne (.int i) (.int j) = some (!decide (i = j)) := by
  show some (!(i == j)) = _
  rw [Bool.beq_eq_decide_eq]
theorem q_eq {x y : PyData} (h : okEq x y = true) : cmpD .eq x y = some (PyData.eqv x y) := if_pos h
theorem q_ne {x y : PyData} (h : okEq x y = true) : cmpD .ne x y = some (!PyData.eqv x y) := if_pos h
theorem q_inL {x : PyData} (h : okEq x (.list ds) = true) : cmpD .isin x (.list ds) = some (ds.any fun z => PyData.eqv z x) := if_pos h
theorem q_inT {x : PyData} (h : okEq x (.tuple ds) = true) : cmpD .isin x (.tuple ds) = some (ds.any fun z => PyData.eqv z x) := if_pos h
theorem q_ninL {x : PyData} (h : okEq x (.list ds) = true) : cmpD .notin x (.list ds) = some (!ds.any fun z => PyData.eqv z x) := if_pos h
theorem q_ninT {x : PyData} (h : okEq x (.tuple ds) = true) : cmpD .notin x (.tuple ds) = some (!ds.any fun z => PyData.eqv z x) := if_pos h
theorem q_is {x : PyData} : cmpD .isn x .none = some (match x with | .none => true | _ => false) := Eq.trans rfl rfl
theorem q_isn {x : PyData} : cmpD .notn x .none = some (match x with | .none => false | _ => true) := Eq.trans rfl rfl
theorem q_len1 : biD .len [.list ds] = some (.fz (.int ds.length)) := Eq.trans rfl rfl
theorem q_len2 : biD .len [.tuple ds] = some (.fz (.int ds.length)) := Eq.trans rfl rfl
theorem q_int1 : biD .int [.int i] = some (.fz (.int i)) := Eq.trans rfl rfl
theorem q_int2 (b : Bool) : biD .int [.bool b] = some (.fz (.int (if b then 1 else 0))) := Eq.trans rfl rfl
theorem q_min : biD .min2 [.int i, .int j] = some (.fz (.int (if j < i then j else i))) := Eq.trans rfl rfl
theorem q_max : biD .max2 [.int i, .int j] = some (.fz (.int (if j > i then j else i))) := Eq.trans rfl rfl
theorem q_sorted (h : sortOk ds = true) : biD .sorted [.list ds] = some (.lst (ds.mergeSort (PySem.W.dataLe false id))) := if_pos h
theorem q_sortedT (h : sortOk ds = true) : biD .sorted [.tuple ds] = some (.lst (ds.mergeSort (PySem.W.dataLe false id))) := if_pos h
theorem q_tup1 : biD .tuple [.list ds] = some (.fz (.tuple ds)) := Eq.trans rfl rfl
theorem q_tup2 : biD .tuple [.tuple ds] = some (.fz (.tuple ds)) := Eq.trans rfl rfl
theorem q_lst1 : biD .list [.list ds] = some (.lst ds) := Eq.trans rfl rfl
theorem q_lst2 : biD .list [.tuple ds] = some (.lst ds) := Eq.trans rfl rfl
theorem q_any (bs : List Bool) (h : bools ds = some bs) : biD .any [.list ds] = some (.fz (.bool (bs.any id))) := by simp only [biD, h, Option.map_some]
theorem q_all (bs : List Bool) (h : bools ds = some bs) : biD .all [.list ds] = some (.fz (.bool (bs.all id))) := by simp only [biD, h, Option.map_some]
theorem q_repr (h : reprOk d = true) : biD .repr [d] = some (.fz (.str d.shown)) := if_pos h
theorem q_subL : subD (.list ds) (.int i) = L2.atI ds i := Eq.trans rfl rfl
theorem q_subT : subD (.tuple ds) (.int i) = L2.atI ds i := Eq.trans rfl rfl
theorem q_slL (lo hi : Option Int) : slcD (.list ds) lo hi = some (.lst (cutD ds lo hi)) := Eq.trans rfl rfl
theorem q_slT (lo hi : Option Int) : slcD (.tuple ds) lo hi = some (.fz (.tuple (cutD ds lo hi))) := Eq.trans rfl rfl
theorem bools_map (p : PyData → Bool) : ∀ l : List PyData, bools (l.map fun d => .bool (p d)) = some (l.map p)
  | [] => rfl
  | d :: l => by simp only [List.map_cons, bools, bools_map p l, Option.map_some]
theorem q_andK (k : Nv → Wd → Res EV) (b : Bool) : andK k (.fz (.bool b)) e w = if b = true then k e w else .ok (.fz (.bool false)) e w := by cases b <;> rfl
theorem q_orK (k : Nv → Wd → Res EV) (b : Bool) : orK k (.fz (.bool b)) e w = if b = true then .ok (.fz (.bool true)) e w else k e w := by cases b <;> rfl
theorem q_chnK (k s : Res EV) (b : Bool) : chnK (some b) k s = if b = true then k else s := by cases b <;> rfl
section
variable {P : Prop} [Decidable P]
theorem q_ite1 (a b : Res α) (k : α → Nv → Wd → Res β) : (if P then a else b).bind k = if P then a.bind k else b.bind k := by split <;> rfl
theorem q_ite2 (a b : Res α) (k : α → Nv → Wd → SR) : (if P then a else b).toS k = if P then a.toS k else b.toS k := by split <;> rfl
theorem q_ite3 (a b : SR) (k : Nv → Wd → SR) : (if P then a else b).seq k = if P then a.seq k else b.seq k := by split <;> rfl
theorem q_ite4 (a b : SR) : endS (if P then a else b) = if P then endS a else endS b := by split <;> rfl
theorem q_ite5 (a b : Res EV) : tst (if P then a else b) = if P then tst a else tst b := by split <;> rfl
end
theorem q_goS : goS (some e) w = .nx e w := Eq.trans rfl rfl
theorem q_sv1 : setV env n (.fz d) = if n < env.length then some (env.set n (some (.fz d))) else none := Eq.trans rfl rfl
theorem q_sv2 : setV env n (.lst ds) = if n < env.length then some (env.set n (some (.lst ds))) else none := Eq.trans rfl rfl
theorem q_sv3 : setV env n .src = if n < env.length then some (env.set n (some .src)) else none := Eq.trans rfl rfl
theorem q_ub1 : unbor env (.fz d) = some (.fz d, env) := Eq.trans rfl rfl
theorem q_ub2 : unbor env (.lst ds) = some (.lst ds, env) := Eq.trans rfl rfl
theorem q_pv (v : EV) : putV env n v = if n < env.length then some (env.set n (some v)) else none := Eq.trans rfl rfl
theorem q_app1 (h : env[n]? = some (some (.lst ds))) (hl : ds.length < sizeLine) : appI n (.fz d) env w = .nx (env.set n (some (.lst (ds ++ [d])))) w := by
  simp only [appI, esc1, h, if_pos hl]
end

/-! ### loops, by the place; loops that gather -/
theorem for_ix {tg : Tg} {b : Nv → Wd → SR} {ds : List PyData} {J : Nat → Nv → Wd → Prop} {env : Nv} {w : Wd} (h0 : J 0 env w)
    (hs : ∀ (i : Nat) d, ds[i]? = some d → ∀ env w, J i env w → ∃ e1, asgT env tg d = some e1 ∧ ∃ e2 w2, (b e1 w = .nx e2 w2 ∨ b e1 w = .ct e2 w2) ∧ J (i + 1) e2 w2) :
    ∃ e2 w2, forGo tg b ds env w = .nx e2 w2 ∧ J ds.length e2 w2 := by
  have key : ∀ (n i : Nat) env w, ds.length - i = n → i ≤ ds.length → J i env w → ∃ e2 w2, forGo tg b (ds.drop i) env w = .nx e2 w2 ∧ J ds.length e2 w2 := by
    intro n
    induction n with
    | zero =>
      intro i env w hn hi hj
      have e : i = ds.length := by omega
      subst e
      rw [List.drop_eq_nil_of_le (Nat.le_refl _)]
      exact ⟨env, w, rfl, hj⟩
    | succ n ih =>
      intro i env w hn hi hj
      have hlt : i < ds.length := by omega
      rw [List.drop_eq_getElem_cons hlt]
      obtain ⟨e1, h1, e2, w2, h2, h3⟩ := hs i _ (List.getElem?_eq_getElem hlt) env w hj
      simp only [forGo, h1]
      rcases h2 with h2 | h2 <;> simp only [h2] <;> exact ih (i + 1) e2 w2 (by omega) hlt h3
  simpa using key ds.length 0 env w (by simp) (Nat.zero_le _) h0
theorem for_filter {tg : Tg} {b : Nv → Wd → SR} {w : Wd} {J : List PyData → Nv → Prop} {p : PyData → Bool} {x : PyData → PyData} {M : Nat} :
    ∀ (ds a : List PyData) (env : Nv), a.length + ds.length ≤ M → J a env →
      (∀ d, d ∈ ds → ∀ a env, a.length < M → J a env → ∃ e1, asgT env tg d = some e1 ∧ ∃ e2, b e1 w = .nx e2 w ∧ J (if p d = true then a ++ [x d] else a) e2) →
      ∃ e2, forGo tg b ds env w = .nx e2 w ∧ J (a ++ (ds.filter p).map x) e2
  | [], a, env, _, hj, _ => ⟨env, rfl, by simpa using hj⟩
  | d :: ds, a, env, hM, hj, hs => by
    rw [List.length_cons] at hM
    obtain ⟨e1, h1, e2, h2, h3⟩ := hs d (by simp) a env (by omega) hj
    simp only [forGo, h1, h2]
    by_cases hp : p d = true
    · rw [if_pos hp] at h3
      obtain ⟨e3, h4, h5⟩ := for_filter ds (a ++ [x d]) e2 (by simp; omega) h3 fun d' hd' => hs d' (by simp [hd'])
      exact ⟨e3, h4, by simpa [List.filter_cons, hp] using h5⟩
    · rw [if_neg hp] at h3
      obtain ⟨e3, h4, h5⟩ := for_filter ds a e2 (by omega) h3 fun d' hd' => hs d' (by simp [hd'])
      exact ⟨e3, h4, by simpa [List.filter_cons, hp] using h5⟩
section
variable {env : Nv} {w : Wd} {ds : List PyData} {n : Nat} {f : List PyData → List PyData}
theorem q_sk1 : seqK env (.fz (.tuple ds)) f = some (⟨f ds, none, []⟩, env) := Eq.trans rfl rfl
theorem q_sk2 : seqK env (.fz (.list ds)) f = some (⟨f ds, none, []⟩, env) := Eq.trans rfl rfl
theorem q_sk3 : seqK env (.lst ds) f = some (⟨f ds, none, []⟩, env) := Eq.trans rfl rfl
theorem q_sk4 (h : env[n]? = some (some (.lst ds))) : seqK env (.bor n) f = some (⟨f ds, some n, ds⟩, env) := by simp only [seqK, h]
theorem q_noX {α : Type} (a : α) : noX (.ok a env w) = .ok a env w := Eq.trans rfl rfl
theorem q_hold1 (a b : List PyData) : Ik.hold ⟨a, none, b⟩ env = none := Eq.trans rfl rfl
theorem q_hold2 (a b : List PyData) : Ik.hold ⟨a, some n, b⟩ env = some (n, b) := Eq.trans rfl rfl
theorem q_frz1 (a b : List PyData) : frzK ⟨a, none, b⟩ env = some env := Eq.trans rfl rfl
theorem q_frz2 (a : List PyData) (h : env[n]? = some (some (.lst ds))) : frzK ⟨a, some n, ds⟩ env = some (env.set n (some (.fz (.list ds)))) := by
  unfold frzK
  simp only [if_pos h]
theorem q_heldN : Held none env := trivial
end
theorem line_ge {n : Nat} (h : n ≤ 1000000) : n ≤ sizeLine := Nat.le_trans h (by decide)
section
variable {env env0 : Nv} {d : PyData} {ds : List PyData}
theorem q_as1 (i : Nat) : asgT env (.nm i) d = if i < env.length then some (env.set i (some (.fz d))) else none := by simp only [asgT]
theorem q_as2 (ts : Tgs) : asgT env (.tp ts) (.tuple ds) = asgTs env ts ds := by simp only [asgT]
theorem q_as3 (ts : Tgs) : asgT env (.tp ts) (.list ds) = asgTs env ts ds := by simp only [asgT]
theorem q_as4 : asgTs env .nil [] = some env := by simp only [asgTs]
theorem q_as5 (t : Tg) (ts : Tgs) : asgTs env (.cons t ts) (d :: ds) = match asgT env t d with
    | none => none
    | some e1 => asgTs e1 ts ds := by first | (simp only [asgTs]; done) | (simp only [asgTs]; rfl)
theorem q_wp0 : wipeE env [] = env := Eq.trans rfl rfl
theorem q_wp1 (v : Nat) (vs : List Nat) : wipeE env (v :: vs) = (wipeE env vs).set v none := Eq.trans rfl rfl
theorem q_kp0 : keepE env0 env [] = env := Eq.trans rfl rfl
theorem q_kp1 (v : Nat) (vs : List Nat) : keepE env0 env (v :: vs) = (keepE env0 env vs).set v (match env0[v]? with | some (some (.fz d)) => some (.fz d) | _ => none) := Eq.trans rfl rfl
theorem q_ed0 : escD env [] = some ([], env) := Eq.trans rfl rfl
theorem q_ed1 (e : EV) (es : List EV) : escD env (e :: es) = match esc1 env e with
    | none => none
    | some (d, e1) => match escD e1 es with
      | none => none
      | some (ds, e2) => some (d :: ds, e2) := by first | (simp only [escD]; done) | (simp only [escD]; rfl)
end
/-- [x for t in it], whole -/
theorem ev_map {fn : Fns} {own : List (Str × Nat)} {tg : Tg} {it : IE} {elt : E} {env e1 : Nv} {w : Wd} {k : Ik} (x : PyData → PyData) (hI : evI fn it env w = .ok k e1 w) (hl : k.items.length ≤ sizeLine)
    (hh : Held (k.hold e1) (wipeE e1 (own.map (·.2))))
    (hs : ∀ d, d ∈ k.items → ∃ E v, asgT (wipeE e1 (own.map (·.2))) tg d = some E ∧ ev fn elt E w = .ok v E w ∧ esc1 E v = some (x d, E) ∧ wipeE E (own.map (·.2)) = wipeE e1 (own.map (·.2))) :
    ev fn (.lc own tg it .nil elt) env w = .ok (.lst (k.items.map x)) (keepE e1 (wipeE e1 (own.map (·.2))) (own.map (·.2))) w := by
  rw [e_ev_lc, hI]
  simp only [Res.bind]
  rw [lc_map (x := x) hh k.items hl hs]
  rfl
/-- [x for t in it if c], whole -/
theorem ev_filter {fn : Fns} {own : List (Str × Nat)} {tg : Tg} {it : IE} {c elt : E} {env e1 : Nv} {w : Wd} {k : Ik} (p : PyData → Bool) (x : PyData → PyData) (hI : evI fn it env w = .ok k e1 w) (hl : k.items.length ≤ sizeLine)
    (hh : Held (k.hold e1) (wipeE e1 (own.map (·.2))))
    (hs : ∀ d, d ∈ k.items → ∃ E, asgT (wipeE e1 (own.map (·.2))) tg d = some E ∧ ev fn c E w = .ok (.fz (.bool (p d))) E w ∧ (p d = true → ∃ v, ev fn elt E w = .ok v E w ∧ esc1 E v = some (x d, E)) ∧ wipeE E (own.map (·.2)) = wipeE e1 (own.map (·.2))) :
    ev fn (.lc own tg it (.cons c .nil) elt) env w = .ok (.lst ((k.items.filter p).map x)) (keepE e1 (wipeE e1 (own.map (·.2))) (own.map (·.2))) w := by
  rw [e_ev_lc, hI]
  simp only [Res.bind]
  rw [lc_pure (p := p) (x := x) hh k.items [] (by simpa using hl) fun d hd => by
    obtain ⟨E, h1, h2, h3, h4⟩ := hs d hd
    exact ⟨E, h1, by rw [e_evT_one, h2]; rfl, h3, h4⟩]
  rfl

/-! ### the same, where the items are told by something -/
section
variable {γ : Type} {g : γ → PyData}
theorem lc_pureM {tg : Tg} {vs : List Nat} {hd : Option (Nat × List PyData)} {c : Mo Bool} {f : Mo EV} {env : Nv} {w : Wd} {p : γ → Bool} {x : γ → PyData} (hh : Held hd env) :
    ∀ (l : List γ) (acc : List PyData), acc.length + l.length ≤ sizeLine →
      (∀ d, d ∈ l → ∃ E, asgT env tg (g d) = some E ∧ c E w = .ok (p d) E w ∧ (p d = true → ∃ v, f E w = .ok v E w ∧ esc1 E v = some (x d, E)) ∧ wipeE E vs = env) →
      lcGo tg vs hd c f (l.map g) acc env w = .ok (acc ++ (l.filter p).map x) env w
  | [], acc, _, _ => by
    simp only [lcGo, List.map_nil]
    rw [if_pos hh]
    simp
  | d :: ds, acc, hl, hs => by
    obtain ⟨E, h1, h2, h3, h4⟩ := hs d (by simp)
    simp only [lcGo, List.map_cons]
    rw [if_pos hh, h1]
    simp only [h2, Res.bind]
    rw [List.length_cons] at hl
    by_cases hp : p d = true
    · obtain ⟨v, h5, h6⟩ := h3 hp
      rw [if_pos hp]
      simp only [h5, h6]
      rw [if_pos (by omega), h4, lc_pureM hh ds (acc ++ [x d]) (by simp; omega) fun e he => hs e (by simp [he])]
      simp [List.filter_cons, hp]
    · rw [if_neg hp, h4, lc_pureM hh ds acc (by omega) fun e he => hs e (by simp [he])]
      simp [List.filter_cons, hp]
theorem ev_mapM {fn : Fns} {own : List (Str × Nat)} {tg : Tg} {it : IE} {elt : E} {env e1 : Nv} {w : Wd} {at_ : Option Nat} {raw : List PyData} (l : List γ) (x : γ → PyData) (hI : evI fn it env w = .ok ⟨l.map g, at_, raw⟩ e1 w) (hl : l.length ≤ sizeLine)
    (hh : Held (Ik.hold ⟨l.map g, at_, raw⟩ e1) (wipeE e1 (own.map (·.2))))
    (hs : ∀ d, d ∈ l → ∃ E v, asgT (wipeE e1 (own.map (·.2))) tg (g d) = some E ∧ ev fn elt E w = .ok v E w ∧ esc1 E v = some (x d, E) ∧ wipeE E (own.map (·.2)) = wipeE e1 (own.map (·.2))) :
    ev fn (.lc own tg it .nil elt) env w = .ok (.lst (l.map x)) (keepE e1 (wipeE e1 (own.map (·.2))) (own.map (·.2))) w := by
  rw [e_ev_lc, hI]
  simp only [Res.bind]
  rw [lc_pureM (p := fun _ => true) (x := x) hh l [] (by simpa using hl) fun d hd => by
    obtain ⟨E, v, h1, h2, h3, h4⟩ := hs d hd
    exact ⟨E, h1, rfl, fun _ => ⟨v, h2, h3⟩, h4⟩]
  have e : (l.filter fun _ => true) = l := List.filter_eq_self.mpr (by simp)
  rw [e]
  rfl
theorem ev_filterM {fn : Fns} {own : List (Str × Nat)} {tg : Tg} {it : IE} {c elt : E} {env e1 : Nv} {w : Wd} {at_ : Option Nat} {raw : List PyData} (l : List γ) (p : γ → Bool) (x : γ → PyData) (hI : evI fn it env w = .ok ⟨l.map g, at_, raw⟩ e1 w) (hl : l.length ≤ sizeLine)
    (hh : Held (Ik.hold ⟨l.map g, at_, raw⟩ e1) (wipeE e1 (own.map (·.2))))
    (hs : ∀ d, d ∈ l → ∃ E, asgT (wipeE e1 (own.map (·.2))) tg (g d) = some E ∧ ev fn c E w = .ok (.fz (.bool (p d))) E w ∧ (p d = true → ∃ v, ev fn elt E w = .ok v E w ∧ esc1 E v = some (x d, E)) ∧ wipeE E (own.map (·.2)) = wipeE e1 (own.map (·.2))) :
    ev fn (.lc own tg it (.cons c .nil) elt) env w = .ok (.lst ((l.filter p).map x)) (keepE e1 (wipeE e1 (own.map (·.2))) (own.map (·.2))) w := by
  rw [e_ev_lc, hI]
  simp only [Res.bind]
  rw [lc_pureM (p := p) (x := x) hh l [] (by simpa using hl) fun d hd => by
    obtain ⟨E, h1, h2, h3, h4⟩ := hs d hd
    exact ⟨E, h1, by rw [e_evT_one, h2]; rfl, h3, h4⟩]
  rfl
theorem for_filterM {tg : Tg} {b : Nv → Wd → SR} {w : Wd} {J : List PyData → Nv → Prop} {p : γ → Bool} {x : γ → PyData} {M : Nat} :
    ∀ (l : List γ) (a : List PyData) (env : Nv), a.length + l.length ≤ M → J a env →
      (∀ d, d ∈ l → ∀ a env, a.length < M → J a env → ∃ e1, asgT env tg (g d) = some e1 ∧ ∃ e2, b e1 w = .nx e2 w ∧ J (if p d = true then a ++ [x d] else a) e2) →
      ∃ e2, forGo tg b (l.map g) env w = .nx e2 w ∧ J (a ++ (l.filter p).map x) e2
  | [], a, env, _, hj, _ => ⟨env, rfl, by simpa using hj⟩
  | d :: ds, a, env, hM, hj, hs => by
    rw [List.length_cons] at hM
    obtain ⟨e1, h1, e2, h2, h3⟩ := hs d (by simp) a env (by omega) hj
    simp only [forGo, h1, h2, List.map_cons]
    by_cases hp : p d = true
    · rw [if_pos hp] at h3
      obtain ⟨e3, h4, h5⟩ := for_filterM ds (a ++ [x d]) e2 (by simp; omega) h3 fun d' hd' => hs d' (by simp [hd'])
      exact ⟨e3, h4, by simpa [List.filter_cons, hp] using h5⟩
    · rw [if_neg hp] at h3
      obtain ⟨e3, h4, h5⟩ := for_filterM ds a e2 (by omega) h3 fun d' hd' => hs d' (by simp [hd'])
      exact ⟨e3, h4, by simpa [List.filter_cons, hp] using h5⟩
theorem for_findM {tg : Tg} {b : Nv → Wd → SR} {w : Wd} {J : Nv → Prop} {f : γ → Option EV} :
    ∀ (l : List γ) (env : Nv), J env →
      (∀ d, d ∈ l → ∀ env, J env → ∃ e1, asgT env tg (g d) = some e1 ∧ match f d with
        | some v => b e1 w = .rt v w
        | none => ∃ e2, b e1 w = .nx e2 w ∧ J e2) →
      match l.findSome? f with
      | some v => forGo tg b (l.map g) env w = .rt v w
      | none => ∃ e2, forGo tg b (l.map g) env w = .nx e2 w ∧ J e2
  | [], env, hj, _ => ⟨env, rfl, hj⟩
  | d :: ds, env, hj, hs => by
    obtain ⟨e1, h1, h2⟩ := hs d (by simp) env hj
    simp only [forGo, h1, List.findSome?_cons, List.map_cons]
    cases q : f d with
    | some v =>
      rw [q] at h2
      simp only [h2]
    | none =>
      rw [q] at h2
      obtain ⟨e2, h3, h4⟩ := h2
      simp only [h3]
      exact for_findM ds e2 h4 fun d' hd' => hs d' (by simp [hd'])
end
/-! ### parts -/
theorem cut_from (ds : List PyData) (n : Nat) : cutD ds (some ((n : Nat) : Int)) none = ds.drop n := by
  unfold cutD
  rw [HT.sIx_nat, HT.sIx_none]
  by_cases h : n ≤ ds.length
  · rw [Nat.min_eq_left h, List.take_of_length_le (by simp)]
  · rw [Nat.min_eq_right (by omega)]
    simp
    omega
theorem cut_to (ds : List PyData) (n : Nat) : cutD ds none (some ((n : Nat) : Int)) = ds.take n := by
  unfold cutD
  rw [HT.sIx_nat, HT.sIx_none]
  simp
theorem enmL_at (ds : List PyData) (i : Nat) : (enmL ds)[i]? = (ds[i]?).map fun e => .tuple [.int (i : Nat), e] := by
  unfold enmL
  rw [List.getElem?_map, List.getElem?_zipIdx]
  cases ds[i]? with
  | none => rfl
  | some e => simp
theorem rngL_map (n : Nat) : rngL 0 n = (List.range n).map fun (i : Nat) => .int (i : Nat) := by
  unfold rngL
  apply List.map_congr_left
  intro i _
  simp
theorem line0 : (0 ≤ sizeLine) = True := eq_true (by decide)
theorem line1 : (1 ≤ sizeLine) = True := eq_true (by decide)
theorem line2 : (2 ≤ sizeLine) = True := eq_true (by decide)
theorem line3 : (3 ≤ sizeLine) = True := eq_true (by decide)
theorem line4 : (4 ≤ sizeLine) = True := eq_true (by decide)
theorem line5 : (5 ≤ sizeLine) = True := eq_true (by decide)
theorem line6 : (6 ≤ sizeLine) = True := eq_true (by decide)
theorem line7 : (7 ≤ sizeLine) = True := eq_true (by decide)
theorem line8 : (8 ≤ sizeLine) = True := eq_true (by decide)
end DL

set_option Elab.async false
set_option linter.all false
set_option maxRecDepth 100000
set_option maxHeartbeats 4000000
set_option exponentiation.threshold 1000
set_option autoImplicit false
namespace DL
open PySem PySem.Spec L2
/-! ### counted loops -/
theorem q_rg1 {n : Nat} (h : n ≤ 1000000000) : (-(2 ^ 62) ≤ ((n : Nat) : Int) ∧ ((n : Nat) : Int) < 2 ^ 62) = True := eq_true (by omega)
theorem q_rg2 {a n : Nat} (ha : a ≤ 1000000000) (h : n ≤ 1000000000) : (-(2 ^ 62) ≤ ((a : Nat) : Int) ∧ ((a : Nat) : Int) < 2 ^ 62 ∧ -(2 ^ 62) ≤ ((n : Nat) : Int) ∧ ((n : Nat) : Int) < 2 ^ 62) = True := eq_true (by omega)
theorem q_rg3 {a n : Nat} (ha : a ≤ 1000000000) (h : n ≤ 1000000000) : (-(2 ^ 62) ≤ ((a : Nat) : Int) + 1 ∧ ((a : Nat) : Int) + 1 < 2 ^ 62 ∧ -(2 ^ 62) ≤ ((n : Nat) : Int) ∧ ((n : Nat) : Int) < 2 ^ 62) = True := eq_true (by omega)
theorem q_toN (n : Nat) : ((n : Nat) : Int).toNat = n := by simp
theorem q_toN2 (a n : Nat) : (((n : Nat) : Int) - (((a : Nat) : Int) + 1)).toNat = n - (a + 1) := by omega
theorem rngN (lo : Int) (n : Nat) : rngL lo n = (List.range n).map fun (i : Nat) => .int (lo + (i : Int)) := rfl
theorem rngL_at (lo : Int) (n i : Nat) : (rngL lo n)[i]? = if i < n then some (.int (lo + (i : Int))) else none := by
  unfold rngL
  rw [List.getElem?_map]
  by_cases h : i < n
  · rw [if_pos h, List.getElem?_range h]
    rfl
  · rw [if_neg h, List.getElem?_eq_none (by simp; omega)]
    rfl
theorem rng0_at (n i : Nat) : (rngL 0 n)[i]? = if i < n then some (.int (i : Nat)) else none := by
  rw [rngL_at, Int.zero_add]
theorem rngL_len (lo : Int) (n : Nat) : (rngL lo n).length = n := by unfold rngL; simp
theorem rng0_map (n : Nat) : rngL 0 n = (List.range n).map fun (i : Nat) => PyData.int (i : Nat) := rngL_map n
theorem rng1_map (a n : Nat) : rngL (((a : Nat) : Int) + 1) (n - (a + 1)) = (List.range' (a + 1) (n - (a + 1))).map fun (i : Nat) => PyData.int (i : Nat) := by
  unfold rngL
  rw [List.range'_eq_map_range, List.map_map]
  apply List.map_congr_left
  intro i _
  show PyData.int _ = PyData.int _
  congr 1
theorem findSome_congr {α β : Type} {f g : α → Option β} : ∀ {l : List α}, (∀ x, x ∈ l → f x = g x) → l.findSome? f = l.findSome? g
  | [], _ => rfl
  | x :: l, h => by
    rw [List.findSome?_cons, List.findSome?_cons, h x (by simp), findSome_congr fun y hy => h y (by simp [hy])]
end DL
namespace DL
open PySem PySem.Spec L2
theorem z_rng {n : Nat} (hn : n ≤ 1000000000) : -(2 ^ 62) ≤ ((n:Nat):Int) ∧ ((n:Nat):Int) < 2 ^ 62 := by omega
theorem z_rng2 {m n : Nat} (hm : m ≤ 1000000000) (hn : n ≤ 1000000000) : -(2 ^ 62) ≤ ((m : Nat) : Int) + 1 ∧ ((m : Nat) : Int) + 1 < 2 ^ 62 ∧ -(2 ^ 62) ≤ ((n:Nat):Int) ∧ ((n:Nat):Int) < 2 ^ 62 := by omega
theorem evI_rng1I {fn : Fns} {a : E} {env e1 : Nv} {w w1 : Wd} {j : Int} (h : ev fn a env w = .ok (.fz (.int j)) e1 w1) (hj : -(2 ^ 62) ≤ j ∧ j < 2 ^ 62) : evI fn (.rng1 a) env w = .ok ⟨rngL 0 j.toNat, none, []⟩ e1 w1 := by
  rw [e_evI_rng1, h]
  simp only [q_bind, if_pos hj]
theorem evI_rng2I {fn : Fns} {a b : E} {env e1 e2 : Nv} {w w1 w2 : Wd} {i j : Int} (ha : ev fn a env w = .ok (.fz (.int i)) e1 w1) (h : ev fn b e1 w1 = .ok (.fz (.int j)) e2 w2) (hj : -(2 ^ 62) ≤ i ∧ i < 2 ^ 62 ∧ -(2 ^ 62) ≤ j ∧ j < 2 ^ 62) :
    evI fn (.rng2 a b) env w = .ok ⟨rngL i (j - i).toNat, none, []⟩ e2 w2 := by
  rw [e_evI_rng2, ha]
  simp only [q_bind, h, if_pos hj]
theorem evI_rng1N {fn : Fns} {a : E} {env e1 : Nv} {w w1 : Wd} {n : Nat} (h : ev fn a env w = .ok (.fz (.int (n : Nat))) e1 w1) (hn : n ≤ 1000000000) : evI fn (.rng1 a) env w = .ok ⟨rngL 0 n, none, []⟩ e1 w1 := by
  rw [evI_rng1I h (z_rng hn), q_toN]
theorem evI_rng2N {fn : Fns} {a b : E} {env e1 e2 : Nv} {w w1 w2 : Wd} {m n : Nat} (ha : ev fn a env w = .ok (.fz (.int (((m : Nat) : Int) + 1))) e1 w1) (hm : m ≤ 1000000000) (h : ev fn b e1 w1 = .ok (.fz (.int (n : Nat))) e2 w2) (hn : n ≤ 1000000000) :
    evI fn (.rng2 a b) env w = .ok ⟨rngL (((m : Nat) : Int) + 1) (n - (m + 1)), none, []⟩ e2 w2 := by
  rw [evI_rng2I ha h (z_rng2 hm hn), q_toN2]
end DL
namespace DL
open PySem PySem.Spec L2
theorem xS_forN {fn : Fns} {tg : Tg} {it : IE} {b : Sl} {env e1 : Nv} {w w1 : Wd} {ds r : List PyData} {R : SR} (hI : evI fn it env w = .ok ⟨ds, none, r⟩ e1 w1) (hf : forGo tg (xsl fn b) ds e1 w1 = R) : xS fn (.for_ tg it b) env w = R := by
  rw [e_xS_for_, hI, q_toS, q_frz1]
  exact hf
end DL
namespace DL
open PySem PySem.Spec L2
/-- a for that looks for a first one, as a statement -/
theorem xS_findM {γ : Type} {g : γ → PyData} {fn : Fns} {tg : Tg} {it : IE} {b : Sl} {env e1 : Nv} {w : Wd} {r : List PyData} {J : Nv → Prop} {f : γ → Option EV} (l : List γ)
    (hI : evI fn it env w = .ok ⟨l.map g, none, r⟩ e1 w) (hJ : J e1)
    (hs : ∀ d, d ∈ l → ∀ env, J env → ∃ e, asgT env tg (g d) = some e ∧ match f d with
        | some v => xsl fn b e w = .rt v w
        | none => ∃ e2, xsl fn b e w = .nx e2 w ∧ J e2) :
    match l.findSome? f with
      | some v => xS fn (.for_ tg it b) env w = .rt v w
      | none => ∃ e2, xS fn (.for_ tg it b) env w = .nx e2 w ∧ J e2 := by
  have h := for_findM (tg := tg) (g := g) (f := f) (J := J) l e1 hJ hs
  cases q : l.findSome? f with
  | some v =>
    rw [q] at h
    exact xS_forN hI h
  | none =>
    rw [q] at h
    obtain ⟨e2, h1, h2⟩ := h
    exact ⟨e2, xS_forN hI h1, h2⟩
theorem xsl_rt {fn : Fns} {s : S} {r : Sl} {env : Nv} {w w1 : Wd} {v : EV} (h : xS fn s env w = .rt v w1) : xsl fn (.cons s r) env w = .rt v w1 := by
  rw [e_xsl_cons, h, q_seq2]
theorem xsl_nx {fn : Fns} {s : S} {r : Sl} {env e1 : Nv} {w w1 : Wd} (h : xS fn s env w = .nx e1 w1) : xsl fn (.cons s r) env w = xsl fn r e1 w1 := by
  rw [e_xsl_cons, h, q_seq1]
end DL

set_option Elab.async false
set_option linter.all false
set_option maxRecDepth 100000
set_option maxHeartbeats 4000000
set_option exponentiation.threshold 3000
set_option autoImplicit false
namespace DL
open PySem PySem.Spec L2
/-! ### texts of sound points -/
theorem ok_app (a b : Str) : PyData.strOk (a ++ b) = (PyData.strOk a && PyData.strOk b) := by
  show Array.all (a.cps ++ b.cps) _ = _
  rw [Array.all_append]
  rfl
theorem ok_of (s : String) : PyData.strOk (Str.ofString s) = true := by
  rw [Str.ofString_eq_toList]
  unfold PyData.strOk
  simp only [List.all_toArray, List.all_map, List.all_eq_true, Function.comp]
  intro c _
  rw [decide_eq_true_eq]
  have h := c.valid
  have e : c.toNat = c.val.toNat := rfl
  rw [e]
  unfold UInt32.isValidChar Nat.isValidChar at h
  omega
theorem ok_join (sep : Str) (h : PyData.strOk sep = true) : ∀ ts : List Str, (∀ t, t ∈ ts → PyData.strOk t = true) → PyData.strOk (Str.join sep ts) = true
  | [], _ => (by decide +kernel : PyData.strOk Str.empty = true)
  | [x], h' => h' x (by simp)
  | x :: y :: r, h' => by
    show PyData.strOk (x ++ sep ++ Str.join sep (y :: r)) = true
    rw [ok_app, ok_app, h' x (by simp), h, ok_join sep h (y :: r) fun t ht => h' t (by simp at ht ⊢; exact .inr ht)]
    rfl
theorem ok_from : ∀ (ts : List Str) (k : Nat) (acc : Str), PyData.strOk acc = true → (∀ t, t ∈ ts → PyData.strOk t = true) → PyData.strOk (textFrom k acc ts) = true
  | [], _, _, h, _ => h
  | t :: r, k, acc, h, h' => by
    show PyData.strOk (textFrom (k + 1) (acc ++ (if k > 0 then ", " else "" : String) ++ t) r) = true
    refine ok_from r _ _ ?_ fun t ht => h' t (by simp [ht])
    rw [ok_app, ok_app, h, h' t (by simp), ok_of]
    rfl
/-! ### data that can be told apart and shown -/
structure Tm (k m : Nat) (d : PyData) : Prop where
  lay : d.canLay0 = true
  dep : d.depth ≤ k
  shw : d.showable = true
  len : d.shown.length ≤ m
  okS : PyData.strOk d.shown = true
theorem Tm.mono {k m k' m' : Nat} {d : PyData} (t : Tm k m d) (hk : k ≤ k') (hm : m ≤ m') : Tm k' m' d := ⟨t.lay, Nat.le_trans t.dep hk, t.shw, Nat.le_trans t.len hm, t.okS⟩
theorem Tm.int {i : Int} (h : Sm i) : Tm 0 25 (.int i) := by
  refine ⟨by simp only [PyData.canLay0], by simp [PyData.depth], ?_, ?_, by simp only [PyData.shown]; exact ok_of _⟩
  · simp only [PyData.showable, decide_eq_true_eq]
    by_cases z : i.natAbs = 0
    · rw [z]; decide
    · refine (Nat.log2_lt z).mpr (Nat.lt_of_le_of_lt (show i.natAbs ≤ 2 ^ 64 by unfold Sm at h; omega) ?_)
      exact Nat.pow_lt_pow_right (by decide) (by decide)
  · simp only [PyData.shown]
    have e := int_text_length_le10 (a := i) (k := 24) (by decide) (by unfold Sm at h; omega)
    show (Str.ofString (toString i)).length ≤ 25
    rw [ofString_length]
    omega
theorem Tm.none : Tm 0 25 .none := ⟨by decide, by decide, by decide, by decide +kernel, by decide +kernel⟩
theorem Tm.bool (b : Bool) : Tm 0 25 (.bool b) := by cases b <;> exact ⟨by decide, by decide, by decide, by decide +kernel, by decide +kernel⟩
section
variable {k m : Nat}
theorem tmL_lay : ∀ {ds : List PyData}, (∀ d, d ∈ ds → Tm k m d) → PyData.canLayAll0 ds = true
  | [], _ => by simp only [PyData.canLayAll0]
  | d :: ds, h => by simp only [PyData.canLayAll0, (h d (by simp)).lay, tmL_lay (ds := ds) fun e he => h e (by simp [he]), Bool.and_self]
theorem tmL_shw : ∀ {ds : List PyData}, (∀ d, d ∈ ds → Tm k m d) → PyData.showableAll ds = true
  | [], _ => by simp only [PyData.showableAll]
  | d :: ds, h => by simp only [PyData.showableAll, (h d (by simp)).shw, tmL_shw (ds := ds) fun e he => h e (by simp [he]), Bool.and_self]
theorem tmL_dep : ∀ {ds : List PyData}, (∀ d, d ∈ ds → Tm k m d) → PyData.depthAll ds ≤ k
  | [], _ => by simp [PyData.depthAll]
  | d :: ds, h => by
    simp only [PyData.depthAll]
    exact Nat.max_le.mpr ⟨(h d (by simp)).dep, tmL_dep fun e he => h e (by simp [he])⟩
theorem tmL_num : ∀ ds : List PyData, (PyData.shownAll ds).length = ds.length
  | [] => rfl
  | d :: ds => by simp only [PyData.shownAll, List.length_cons, tmL_num ds]
theorem tmL_len : ∀ {ds : List PyData}, (∀ d, d ∈ ds → Tm k m d) → ((PyData.shownAll ds).map (·.length)).sum ≤ ds.length * m
  | [], _ => by simp [PyData.shownAll]
  | d :: ds, h => by
    simp only [PyData.shownAll, List.map_cons, List.sum_cons, List.length_cons, Nat.succ_mul]
    have := (h d (by simp)).len
    have := tmL_len (ds := ds) fun e he => h e (by simp [he])
    omega
theorem tmL_ok : ∀ {ds : List PyData}, (∀ d, d ∈ ds → Tm k m d) → ∀ t, t ∈ PyData.shownAll ds → PyData.strOk t = true
  | [], _, t, ht => by simp [PyData.shownAll] at ht
  | d :: ds, h, t, ht => by
    simp only [PyData.shownAll, List.mem_cons] at ht
    rcases ht with rfl | ht
    · exact (h d (by simp)).okS
    · exact tmL_ok (ds := ds) (fun e he => h e (by simp [he])) t ht
theorem Tm.tuple {ds : List PyData} (h : ∀ d, d ∈ ds → Tm k m d) : Tm (k + 1) (ds.length * m + 2 * ds.length + 3) (.tuple ds) := by
  refine ⟨by simp only [PyData.canLay0]; exact tmL_lay h, by simp only [PyData.depth]; have := tmL_dep h; omega, by simp only [PyData.showable]; exact tmL_shw h, ?_, ?_⟩
  rotate_left
  · simp only [PyData.shown]
    unfold tupleText
    rw [ok_app, ok_app, ok_of, ok_join _ (ok_of _) _ (tmL_ok h), ok_of]
    rfl
  simp only [PyData.shown]
  have := tupleText_len_le (PyData.shownAll ds)
  rw [tmL_num] at this
  have := tmL_len h
  omega
theorem Tm.list {ds : List PyData} (h : ∀ d, d ∈ ds → Tm k m d) : Tm (k + 1) (ds.length * m + 2 * ds.length + 3) (.list ds) := by
  refine ⟨by simp only [PyData.canLay0]; exact tmL_lay h, by simp only [PyData.depth]; have := tmL_dep h; omega, by simp only [PyData.showable]; exact tmL_shw h, ?_, ?_⟩
  rotate_left
  · simp only [PyData.shown]
    unfold listText
    rw [ok_app, ok_from _ _ _ (ok_of _) (tmL_ok h), ok_of]
    rfl
  simp only [PyData.shown]
  have := listText_len_le (PyData.shownAll ds)
  rw [tmL_num] at this
  have := tmL_len h
  omega
end
theorem okEq_tm {k m k' m' : Nat} {d e : PyData} (a : Tm k m d) (b : Tm k' m' e) (h : k ≤ 64) (h' : k' ≤ 64) : okEq d e = true := by
  unfold okEq SeqAt.shaped
  rw [a.lay, b.lay, decide_eq_true (Nat.le_trans a.dep h), decide_eq_true (Nat.le_trans b.dep h')]
  rfl
theorem reprOk_tm {k m : Nat} {d : PyData} (a : Tm k m d) (h : k ≤ 60) (h' : m ≤ 1000000) : reprOk d = true := by
  unfold reprOk
  rw [a.shw, PyData.hasDict_of_canLay d a.lay, decide_eq_true (Nat.le_trans a.dep h), decide_eq_true (Nat.le_trans a.len (line_ge h'))]
  rfl
/-- one and the same text -/
theorem ne_shown {k m : Nat} {d : PyData} (a : Tm k m d) : cmpD .ne (.str d.shown) (.str d.shown) = some false := by
  have h : SeqAt.shaped (.str d.shown) = true := by
    unfold SeqAt.shaped
    simp only [PyData.canLay0, a.okS, PyData.depth]
    rfl
  rw [q_ne (by unfold okEq; rw [h]; rfl)]
  simp [PyData.eqv]
theorem Tm.str {x : String} (h : (PyData.str x).shown.length ≤ 25) (h' : PyData.strOk (PyData.str x).shown = true) : Tm 0 25 (.str x) := ⟨by simp only [PyData.canLay0]; exact ok_of _, by simp [PyData.depth], by simp [PyData.showable], h, h'⟩
end DL
namespace DL
open PySem PySem.Spec L2
/-! ### taking out at a place -/
theorem seqIndex_nat {j n : Nat} (h : j < n) : seqIndex? ((j : Nat) : Int) n = some j := by
  unfold seqIndex?
  have h0 : ¬ ((j : Nat) : Int) < 0 := by omega
  simp [h0, h]
theorem popI_go {i : Nat} {x : EV} {env : Nv} {w : Wd} {k : Int} {ds : List PyData} {j : Nat} {d : PyData} (hx : dval env x = some (.int k)) (he : env[i]? = some (some (.lst ds))) (hk : seqIndex? k ds.length = some j) (hd : ds[j]? = some d) (hr : -(2 ^ 63) ≤ k ∧ k < 2 ^ 63) :
    popI i x env w = .ok (.fz d) (env.set i (some (.lst (ds.eraseIdx j)))) w := by
  unfold popI
  simp only [hx, he, hk, hd, if_pos hr]
theorem q_pop {i : Nat} {env : Nv} {w : Wd} {ds : List PyData} {j : Nat} {d : PyData} (he : env[i]? = some (some (.lst ds))) (hj : j < ds.length) (hl : ds.length ≤ 1000000000) (hd : ds[j]? = some d) :
    popI i (.fz (.int (j : Nat))) env w = .ok (.fz d) (env.set i (some (.lst (ds.eraseIdx j)))) w :=
  popI_go rfl he (seqIndex_nat hj) hd (by omega)
theorem perm_erase : ∀ {ds : List PyData} {j : Nat} {d : PyData}, ds[j]? = some d → (d :: ds.eraseIdx j).Perm ds
  | [], j, d, h => by simp at h
  | e :: ds, 0, d, h => by
    simp at h
    subst h
    simp
  | e :: ds, j + 1, d, h => by
    simp at h
    rw [List.eraseIdx_cons_succ]
    exact (List.Perm.swap e d _).trans ((perm_erase h).cons e)
/-- what is drawn -/
theorem pick_nat (m : Nat) (h : 1 ≤ m) (s : Src) : ∃ j : Nat, j < m ∧ (pickB (m : Nat) s).1 = (j : Nat) := by
  have := pickB_rng (m : Nat) s (by omega)
  exact ⟨((pickB (m : Nat) s).1).toNat, by omega, by omega⟩
theorem pickN_go {m : Int} (h : m < 2 ^ 62) (s : Src) : pickN [.src, .fz (.int m)] (some s) = .ok (.fz (.int (pickB m s).1)) (some (pickB m s).2) := by
  unfold pickN
  simp only [if_pos h]
end DL
namespace DL
open PySem PySem.Spec L2
theorem ev_lc_go {fn : Fns} {own : List (Str × Nat)} {tg : Tg} {it : IE} {ifs : Es} {elt : E} {env e1 e2 : Nv} {w w1 w2 : Wd} {k : Ik} {xs : List PyData} (hI : evI fn it env w = .ok k e1 w1)
    (h : lcGo tg (own.map (·.2)) (k.hold e1) (evT fn ifs) (ev fn elt) k.items [] (wipeE e1 (own.map (·.2))) w1 = .ok xs e2 w2) :
    ev fn (.lc own tg it ifs elt) env w = .ok (.lst xs) (keepE e1 e2 (own.map (·.2))) w2 := by
  rw [e_ev_lc, hI, q_bind, h]
  rfl
end DL

set_option Elab.async false
set_option linter.all false
set_option maxRecDepth 100000
set_option maxHeartbeats 8000000
set_option autoImplicit false
namespace K37
open PySem PySem.Spec L2 DL
def top (i : Nat) : Stmt := PySem.Challenge.pw_drawnflat_k37_places_judged.main.body.getD i (.Pass ⟨0, 0, 0, 0⟩)
def names : List Str := ["turn", "is_pair", "is_between", "do_meet", "meetings", "first_same", "first_on", "place_fault", "_law_pick", "_law_any_order", "_law_side", "_law_lies", "_law_meet", "_law_meetings", "_law_fault", "_law_draw_clear"]
/-- turn -/
def n_turn : List Str := ["p", "q", "r"]
def b_turn : Sl := (.cons (.ret (.bin .sub (.bin .mul (.bin .sub (.sub (.var 1) (.cI 0)) (.sub (.var 0) (.cI 0))) (.bin .sub (.sub (.var 2) (.cI 1)) (.sub (.var 0) (.cI 1)))) (.bin .mul (.bin .sub (.sub (.var 1) (.cI 1)) (.sub (.var 0) (.cI 1))) (.bin .sub (.sub (.var 2) (.cI 0)) (.sub (.var 0) (.cI 0)))))) .nil)
abbrev s_turn : Stmt := top 1
def c_turn : Cxt := ⟨n_turn, defScope s_turn, fun _ => true, names, fun _ => false⟩
theorem k_turn : chkSl c_turn b_turn (defBody s_turn) = true := by decide +kernel
/-- is_pair -/
def n_is_pair : List Str := ["value", "one"]
def b_is_pair : Sl := (.cons (.ife (.or (.cons (.not (.isi (.var 0) .tuple)) (.cons (.cmp .ne (.bi .len (.cons (.var 0) .nil)) (.cI 2)) .nil))) (.cons (.ret (.cB false)) .nil) .nil) (.cons (.ret (.bi .all (.cons (.lc [("one", 1)] (.nm 1) (.seq (.var 0)) .nil (.and (.cons (.isi (.var 1) .int) (.cons (.not (.isi (.var 1) .bool)) .nil)))) .nil))) .nil))
abbrev s_is_pair : Stmt := top 2
def c_is_pair : Cxt := ⟨n_is_pair, defScope s_is_pair, fun _ => true, names, fun _ => false⟩
theorem k_is_pair : chkSl c_is_pair b_is_pair (defBody s_is_pair) = true := by decide +kernel
/-- is_between -/
def n_is_between : List Str := ["p", "q", "r"]
def b_is_between : Sl := (.cons (.ife (.cmp .ne (.call 0 (.cons (.var 0) (.cons (.var 1) (.cons (.var 2) .nil)))) (.cI 0)) (.cons (.ret (.cB false)) .nil) .nil) (.cons (.ret (.and (.cons (.chn .le .le (.bi .min2 (.cons (.sub (.var 0) (.cI 0)) (.cons (.sub (.var 1) (.cI 0)) .nil))) (.sub (.var 2) (.cI 0)) (.bi .max2 (.cons (.sub (.var 0) (.cI 0)) (.cons (.sub (.var 1) (.cI 0)) .nil)))) (.cons (.chn .le .le (.bi .min2 (.cons (.sub (.var 0) (.cI 1)) (.cons (.sub (.var 1) (.cI 1)) .nil))) (.sub (.var 2) (.cI 1)) (.bi .max2 (.cons (.sub (.var 0) (.cI 1)) (.cons (.sub (.var 1) (.cI 1)) .nil)))) .nil)))) .nil))
abbrev s_is_between : Stmt := top 3
def c_is_between : Cxt := ⟨n_is_between, defScope s_is_between, fun _ => true, names, fun _ => false⟩
theorem k_is_between : chkSl c_is_between b_is_between (defBody s_is_between) = true := by decide +kernel
/-- do_meet -/
def n_do_meet : List Str := ["places", "one", "other", "p", "q", "r", "s", "name"]
def b_do_meet : Sl := (.cons (.asg (.tp (.cons (.nm 3) (.cons (.nm 4) (.cons (.nm 5) (.cons (.nm 6) .nil))))) (.lc [("name", 7)] (.nm 7) (.seq (.bin .add (.var 1) (.var 2))) .nil (.sub (.var 0) (.var 7)))) (.cons (.ife (.or (.cons (.call 2 (.cons (.var 3) (.cons (.var 4) (.cons (.var 5) .nil)))) (.cons (.call 2 (.cons (.var 3) (.cons (.var 4) (.cons (.var 6) .nil)))) (.cons (.call 2 (.cons (.var 5) (.cons (.var 6) (.cons (.var 3) .nil)))) (.cons (.call 2 (.cons (.var 5) (.cons (.var 6) (.cons (.var 4) .nil)))) .nil))))) (.cons (.ret (.cB true)) .nil) .nil) (.cons (.ret (.and (.cons (.cmp .lt (.bin .mul (.call 0 (.cons (.var 3) (.cons (.var 4) (.cons (.var 5) .nil)))) (.call 0 (.cons (.var 3) (.cons (.var 4) (.cons (.var 6) .nil))))) (.cI 0)) (.cons (.cmp .lt (.bin .mul (.call 0 (.cons (.var 5) (.cons (.var 6) (.cons (.var 3) .nil)))) (.call 0 (.cons (.var 5) (.cons (.var 6) (.cons (.var 4) .nil))))) (.cI 0)) .nil)))) .nil)))
abbrev s_do_meet : Stmt := top 4
def c_do_meet : Cxt := ⟨n_do_meet, defScope s_do_meet, fun _ => true, names, fun _ => false⟩
theorem k_do_meet : chkSl c_do_meet b_do_meet (defBody s_do_meet) = true := by decide +kernel
/-- meetings -/
def n_meetings : List Str := ["web", "places", "found", "i", "one", "other"]
def b_meetings : Sl := (.cons (.set 2 (.lst .nil)) (.cons (.for_ (.tp (.cons (.nm 3) (.cons (.nm 4) .nil))) (.enm (.sub (.var 0) (.cI 1))) (.cons (.for_ (.nm 5) (.seq (.slc (.sub (.var 0) (.cI 1)) (.yes (.bin .add (.var 3) (.cI 1))) .no)) (.cons (.ife (.and (.cons (.cmp .notin (.sub (.var 4) (.cI 0)) (.var 5)) (.cons (.cmp .notin (.sub (.var 4) (.cI 1)) (.var 5)) (.cons (.call 3 (.cons (.var 1) (.cons (.var 4) (.cons (.var 5) .nil)))) .nil)))) (.cons (.app 2 (.tup (.cons (.var 4) (.cons (.var 5) .nil)))) .nil) .nil) .nil)) .nil)) (.cons (.ret (.bi .tuple (.cons (.var 2) .nil))) .nil)))
abbrev s_meetings : Stmt := top 5
def c_meetings : Cxt := ⟨n_meetings, defScope s_meetings, fun _ => true, names, fun _ => false⟩
theorem k_meetings : chkSl c_meetings b_meetings (defBody s_meetings) = true := by decide +kernel
/-- first_same -/
def n_first_same : List Str := ["web", "places", "a", "b"]
def b_first_same : Sl := (.cons (.for_ (.nm 2) (.rng1 (.sub (.var 0) (.cI 0))) (.cons (.for_ (.nm 3) (.rng2 (.bin .add (.var 2) (.cI 1)) (.sub (.var 0) (.cI 0))) (.cons (.ife (.cmp .eq (.sub (.var 1) (.var 2)) (.sub (.var 1) (.var 3))) (.cons (.ret (.tup (.cons (.cS "same") (.cons (.var 2) (.cons (.var 3) .nil))))) .nil) .nil) .nil)) .nil)) (.cons (.ret .cN) .nil))
abbrev s_first_same : Stmt := top 6
def c_first_same : Cxt := ⟨n_first_same, defScope s_first_same, fun _ => true, names, fun _ => false⟩
theorem k_first_same : chkSl c_first_same b_first_same (defBody s_first_same) = true := by decide +kernel
/-- first_on -/
def n_first_on : List Str := ["web", "places", "name", "a", "b"]
def b_first_on : Sl := (.cons (.for_ (.nm 2) (.rng1 (.sub (.var 0) (.cI 0))) (.cons (.for_ (.tp (.cons (.nm 3) (.cons (.nm 4) .nil))) (.seq (.sub (.var 0) (.cI 1))) (.cons (.ife (.and (.cons (.cmp .notin (.var 2) (.tup (.cons (.var 3) (.cons (.var 4) .nil)))) (.cons (.call 2 (.cons (.sub (.var 1) (.var 3)) (.cons (.sub (.var 1) (.var 4)) (.cons (.sub (.var 1) (.var 2)) .nil)))) .nil))) (.cons (.ret (.tup (.cons (.cS "on") (.cons (.var 2) (.cons (.var 3) (.cons (.var 4) .nil)))))) .nil) .nil) .nil)) .nil)) (.cons (.ret .cN) .nil))
abbrev s_first_on : Stmt := top 7
def c_first_on : Cxt := ⟨n_first_on, defScope s_first_on, fun _ => true, names, fun _ => false⟩
theorem k_first_on : chkSl c_first_on b_first_on (defBody s_first_on) = true := by decide +kernel
/-- place_fault -/
def n_place_fault : List Str := ["web", "value", "fault", "found", "one"]
def b_place_fault : Sl := (.cons (.ife (.or (.cons (.not (.isi (.var 1) .tuple)) (.cons (.cmp .ne (.bi .len (.cons (.var 1) .nil)) (.sub (.var 0) (.cI 0))) (.cons (.not (.bi .all (.cons (.lc [("one", 4)] (.nm 4) (.seq (.var 1)) .nil (.call 1 (.cons (.var 4) .nil))) .nil))) .nil)))) (.cons (.ret (.tup (.cons (.cS "form") .nil))) .nil) .nil) (.cons (.set 2 (.call 5 (.cons (.var 0) (.cons (.var 1) .nil)))) (.cons (.ife (.cmp .isn (.var 2) .cN) (.cons (.set 2 (.call 6 (.cons (.var 0) (.cons (.var 1) .nil)))) .nil) .nil) (.cons (.ife (.cmp .notn (.var 2) .cN) (.cons (.ret (.var 2)) .nil) .nil) (.cons (.set 3 (.call 4 (.cons (.var 0) (.cons (.var 1) .nil)))) (.cons (.ret (.ite (.cmp .ne (.var 3) (.tup .nil)) (.bin .add (.tup (.cons (.cS "cross") .nil)) (.sub (.var 3) (.cI 0))) .cN)) .nil))))))
abbrev s_place_fault : Stmt := top 8
def c_place_fault : Cxt := ⟨n_place_fault, defScope s_place_fault, fun _ => true, names, fun _ => false⟩
theorem k_place_fault : chkSl c_place_fault b_place_fault (defBody s_place_fault) = true := by decide +kernel
/-- _law_any_order -/
def n__law_any_order : List Str := ["source", "things", "others", "lap"]
def b__law_any_order : Sl := (.cons (.set 2 (.bi .list (.cons (.var 1) .nil))) (.cons (.ret (.lc [("lap", 3)] (.nm 3) (.rng1 (.bi .len (.cons (.var 2) .nil))) .nil (.popAt 2 (.call 8 (.cons (.var 0) (.cons (.bi .len (.cons (.var 2) .nil)) .nil)))))) .nil))
abbrev s__law_any_order : Stmt := top 12
def c__law_any_order : Cxt := ⟨n__law_any_order, defScope s__law_any_order, fun _ => true, names, fun _ => false⟩
theorem k__law_any_order : chkSl c__law_any_order b__law_any_order (defBody s__law_any_order) = true := by decide +kernel
/-- _law_side -/
def n__law_side : List Str := ["p", "q", "r", "number"]
def b__law_side : Sl := (.cons (.set 3 (.bin .sub (.bin .mul (.bin .sub (.sub (.var 1) (.cI 0)) (.sub (.var 0) (.cI 0))) (.bin .sub (.sub (.var 2) (.cI 1)) (.sub (.var 0) (.cI 1)))) (.bin .mul (.bin .sub (.sub (.var 1) (.cI 1)) (.sub (.var 0) (.cI 1))) (.bin .sub (.sub (.var 2) (.cI 0)) (.sub (.var 0) (.cI 0)))))) (.cons (.ret (.bin .sub (.bi .int (.cons (.cmp .gt (.var 3) (.cI 0)) .nil)) (.bi .int (.cons (.cmp .lt (.var 3) (.cI 0)) .nil)))) .nil))
abbrev s__law_side : Stmt := top 13
def c__law_side : Cxt := ⟨n__law_side, defScope s__law_side, fun _ => true, names, fun _ => false⟩
theorem k__law_side : chkSl c__law_side b__law_side (defBody s__law_side) = true := by decide +kernel
/-- _law_lies -/
def n__law_lies : List Str := ["p", "q", "r", "ways"]
def b__law_lies : Sl := (.cons (.set 3 (.bin .add (.bin .mul (.bin .sub (.sub (.var 2) (.cI 0)) (.sub (.var 0) (.cI 0))) (.bin .sub (.sub (.var 2) (.cI 0)) (.sub (.var 1) (.cI 0)))) (.bin .mul (.bin .sub (.sub (.var 2) (.cI 1)) (.sub (.var 0) (.cI 1))) (.bin .sub (.sub (.var 2) (.cI 1)) (.sub (.var 1) (.cI 1)))))) (.cons (.ret (.and (.cons (.cmp .eq (.call 10 (.cons (.var 0) (.cons (.var 1) (.cons (.var 2) .nil)))) (.cI 0)) (.cons (.cmp .le (.var 3) (.cI 0)) .nil)))) .nil))
abbrev s__law_lies : Stmt := top 14
def c__law_lies : Cxt := ⟨n__law_lies, defScope s__law_lies, fun _ => true, names, fun _ => false⟩
theorem k__law_lies : chkSl c__law_lies b__law_lies (defBody s__law_lies) = true := by decide +kernel
/-- _law_meet -/
def n__law_meet : List Str := ["p", "q", "r", "s"]
def b__law_meet : Sl := (.cons (.ife (.or (.cons (.call 11 (.cons (.var 0) (.cons (.var 1) (.cons (.var 2) .nil)))) (.cons (.call 11 (.cons (.var 0) (.cons (.var 1) (.cons (.var 3) .nil)))) (.cons (.call 11 (.cons (.var 2) (.cons (.var 3) (.cons (.var 0) .nil)))) (.cons (.call 11 (.cons (.var 2) (.cons (.var 3) (.cons (.var 1) .nil)))) .nil))))) (.cons (.ret (.cB true)) .nil) .nil) (.cons (.ret (.and (.cons (.cmp .eq (.bin .mul (.call 10 (.cons (.var 0) (.cons (.var 1) (.cons (.var 2) .nil)))) (.call 10 (.cons (.var 0) (.cons (.var 1) (.cons (.var 3) .nil))))) (.neg (.cI 1))) (.cons (.cmp .eq (.bin .mul (.call 10 (.cons (.var 2) (.cons (.var 3) (.cons (.var 0) .nil)))) (.call 10 (.cons (.var 2) (.cons (.var 3) (.cons (.var 1) .nil))))) (.neg (.cI 1))) .nil)))) .nil))
abbrev s__law_meet : Stmt := top 15
def c__law_meet : Cxt := ⟨n__law_meet, defScope s__law_meet, fun _ => true, names, fun _ => false⟩
theorem k__law_meet : chkSl c__law_meet b__law_meet (defBody s__law_meet) = true := by decide +kernel
/-- _law_meetings -/
def n__law_meetings : List Str := ["web", "places", "found", "i", "a", "b", "c", "d"]
def b__law_meetings : Sl := (.cons (.set 2 (.lst .nil)) (.cons (.for_ (.nm 3) (.rng1 (.bi .len (.cons (.sub (.var 0) (.cI 1)) .nil))) (.cons (.asg (.tp (.cons (.nm 4) (.cons (.nm 5) .nil))) (.sub (.sub (.var 0) (.cI 1)) (.var 3))) (.cons (.for_ (.tp (.cons (.nm 6) (.cons (.nm 7) .nil))) (.seq (.slc (.sub (.var 0) (.cI 1)) (.yes (.bin .add (.var 3) (.cI 1))) .no)) (.cons (.ife (.and (.cons (.cmp .notin (.var 4) (.tup (.cons (.var 6) (.cons (.var 7) .nil)))) (.cons (.cmp .notin (.var 5) (.tup (.cons (.var 6) (.cons (.var 7) .nil)))) (.cons (.call 12 (.cons (.sub (.var 1) (.var 4)) (.cons (.sub (.var 1) (.var 5)) (.cons (.sub (.var 1) (.var 6)) (.cons (.sub (.var 1) (.var 7)) .nil))))) .nil)))) (.cons (.app 2 (.tup (.cons (.tup (.cons (.var 4) (.cons (.var 5) .nil))) (.cons (.tup (.cons (.var 6) (.cons (.var 7) .nil))) .nil)))) .nil) .nil) .nil)) .nil))) (.cons (.ret (.var 2)) .nil)))
abbrev s__law_meetings : Stmt := top 16
def c__law_meetings : Cxt := ⟨n__law_meetings, defScope s__law_meetings, fun _ => true, names, fun _ => false⟩
theorem k__law_meetings : chkSl c__law_meetings b__law_meetings (defBody s__law_meetings) = true := by decide +kernel
/-- _law_fault -/
def n__law_fault : List Str := ["web", "value", "one", "a", "b", "name", "found", "x"]
def b__law_fault : Sl := (.cons (.ife (.or (.cons (.not (.isi (.var 1) .tuple)) (.cons (.cmp .ne (.bi .len (.cons (.var 1) .nil)) (.sub (.var 0) (.cI 0))) .nil))) (.cons (.ret (.tup (.cons (.cS "form") .nil))) .nil) .nil) (.cons (.for_ (.nm 2) (.seq (.var 1)) (.cons (.ife (.or (.cons (.not (.isi (.var 2) .tuple)) (.cons (.cmp .ne (.bi .len (.cons (.var 2) .nil)) (.cI 2)) (.cons (.bi .any (.cons (.lc [("x", 7)] (.nm 7) (.seq (.var 2)) .nil (.or (.cons (.not (.isi (.var 7) .int)) (.cons (.isi (.var 7) .bool) .nil)))) .nil)) .nil)))) (.cons (.ret (.tup (.cons (.cS "form") .nil))) .nil) .nil) .nil)) (.cons (.for_ (.nm 3) (.rng1 (.sub (.var 0) (.cI 0))) (.cons (.for_ (.nm 4) (.rng2 (.bin .add (.var 3) (.cI 1)) (.sub (.var 0) (.cI 0))) (.cons (.ife (.cmp .eq (.sub (.var 1) (.var 3)) (.sub (.var 1) (.var 4))) (.cons (.ret (.tup (.cons (.cS "same") (.cons (.var 3) (.cons (.var 4) .nil))))) .nil) .nil) .nil)) .nil)) (.cons (.for_ (.nm 5) (.rng1 (.sub (.var 0) (.cI 0))) (.cons (.for_ (.tp (.cons (.nm 3) (.cons (.nm 4) .nil))) (.seq (.sub (.var 0) (.cI 1))) (.cons (.ife (.and (.cons (.cmp .ne (.var 5) (.var 3)) (.cons (.cmp .ne (.var 5) (.var 4)) (.cons (.call 11 (.cons (.sub (.var 1) (.var 3)) (.cons (.sub (.var 1) (.var 4)) (.cons (.sub (.var 1) (.var 5)) .nil)))) .nil)))) (.cons (.ret (.tup (.cons (.cS "on") (.cons (.var 5) (.cons (.var 3) (.cons (.var 4) .nil)))))) .nil) .nil) .nil)) .nil)) (.cons (.set 6 (.call 13 (.cons (.var 0) (.cons (.var 1) .nil)))) (.cons (.ret (.ite (.cmp .ne (.var 6) (.lst .nil)) (.bin .add (.tup (.cons (.cS "cross") .nil)) (.sub (.var 6) (.cI 0))) .cN)) .nil))))))
abbrev s__law_fault : Stmt := top 17
def c__law_fault : Cxt := ⟨n__law_fault, defScope s__law_fault, fun _ => true, names, fun _ => false⟩
theorem k__law_fault : chkSl c__law_fault b__law_fault (defBody s__law_fault) = true := by decide +kernel
/-- _law_draw_clear -/
def n__law_draw_clear : List Str := ["source", "n", "most", "places", "lap", "one", "pairs", "ties", "a", "skip", "pair", "late", "b"]
def b__law_draw_clear : Sl := (.cons (.set 3 (.lst .nil)) (.cons (.for_ (.nm 4) (.rng1 (.cI 60)) (.cons (.set 5 (.tup (.cons (.call 8 (.cons (.var 0) (.cons (.var 2) .nil))) (.cons (.call 8 (.cons (.var 0) (.cons (.var 2) .nil))) .nil)))) (.cons (.set 3 (.bin .add (.var 3) (.bin .mul (.lst (.cons (.var 5) .nil)) (.bi .int (.cons (.and (.cons (.cmp .notin (.var 5) (.var 3)) (.cons (.cmp .lt (.bi .len (.cons (.var 3) .nil)) (.var 1)) .nil))) .nil))))) .nil))) (.cons (.par3 1 6 7 (.bi .len (.cons (.var 3) .nil)) (.lst .nil) (.lst .nil)) (.cons (.for_ (.nm 8) (.rng1 (.var 1)) (.cons (.set 6 (.bin .add (.var 6) (.lc [("b", 12)] (.nm 12) (.rng2 (.bin .add (.var 8) (.cI 1)) (.var 1)) .nil (.tup (.cons (.var 8) (.cons (.var 12) .nil)))))) .nil)) (.cons (.set 9 (.call 8 (.cons (.var 0) (.cons (.cI 4) .nil)))) (.cons (.for_ (.nm 10) (.seq (.call 9 (.cons (.var 0) (.cons (.var 6) .nil)))) (.cons (.set 11 (.tup (.cons (.var 1) (.cons (.bi .tuple (.cons (.bi .sorted (.cons (.bin .add (.var 7) (.lst (.cons (.var 10) .nil))) .nil)) .nil)) .nil)))) (.cons (.ife (.and (.cons (.or (.cons (.cmp .eq (.var 9) (.cI 0)) (.cons (.cmp .gt (.call 8 (.cons (.var 0) (.cons (.bin .add (.var 9) (.cI 2)) .nil))) (.cI 0)) .nil))) (.cons (.cmp .isn (.call 14 (.cons (.var 11) (.cons (.bi .tuple (.cons (.var 3) .nil)) .nil))) .cN) .nil))) (.cons (.set 7 (.bin .add (.var 7) (.lst (.cons (.var 10) .nil)))) .nil) .nil) .nil))) (.cons (.ret (.tup (.cons (.tup (.cons (.var 1) (.cons (.bi .tuple (.cons (.bi .sorted (.cons (.var 7) .nil)) .nil)) .nil))) (.cons (.bi .tuple (.cons (.var 3) .nil)) .nil)))) .nil)))))))
abbrev s__law_draw_clear : Stmt := top 18
def c__law_draw_clear : Cxt := ⟨n__law_draw_clear, defScope s__law_draw_clear, fun _ => true, names, fun _ => false⟩
theorem k__law_draw_clear : chkSl c__law_draw_clear b__law_draw_clear (defBody s__law_draw_clear) = true := by decide +kernel
/-- law -/
def n_law : List Str := ["script", "source", "lap", "n", "most", "web", "places", "k", "spot", "a", "b", "late", "loose", "more", "some", "value", "odd", "i", "one"]
def b_law : Sl := (.cons (.for_ (.nm 2) (.rng1 (.cI 4)) (.cons (.asg (.tp (.cons (.nm 3) (.cons (.nm 4) .nil))) (.tup (.cons (.bin .add (.cI 1) (.call 8 (.cons (.var 1) (.cons (.cI 8) .nil)))) (.cons (.sub (.lst (.cons (.cI 3) (.cons (.cI 4) (.cons (.cI 6) (.cons (.cI 9) (.cons (.cI 1000) .nil)))))) (.call 8 (.cons (.var 1) (.cons (.cI 5) .nil)))) .nil)))) (.cons (.asg (.tp (.cons (.nm 5) (.cons (.nm 6) .nil))) (.call 15 (.cons (.var 1) (.cons (.var 3) (.cons (.var 4) .nil))))) (.cons (.set 3 (.sub (.var 5) (.cI 0))) (.cons (.ife (.or (.cons (.cmp .notn (.call 7 (.cons (.var 5) (.cons (.var 6) .nil))) .cN) (.cons (.cmp .ne (.call 4 (.cons (.var 5) (.cons (.var 6) .nil))) (.tup .nil)) .nil))) (.cons (.ret (.cB false)) .nil) .nil) (.cons (.set 7 (.call 8 (.cons (.var 1) (.cons (.var 3) .nil)))) (.cons (.set 8 (.tup (.cons (.call 8 (.cons (.var 1) (.cons (.var 4) .nil))) (.cons (.call 8 (.cons (.var 1) (.cons (.var 4) .nil))) .nil)))) (.cons (.ife (.and (.cons (.cmp .eq (.call 8 (.cons (.var 1) (.cons (.cI 3) .nil))) (.cI 0)) (.cons (.cmp .ne (.sub (.var 5) (.cI 1)) (.tup .nil)) .nil))) (.cons (.asg (.tp (.cons (.nm 9) (.cons (.nm 10) .nil))) (.sub (.sub (.var 5) (.cI 1)) (.call 8 (.cons (.var 1) (.cons (.bi .len (.cons (.sub (.var 5) (.cI 1)) .nil)) .nil))))) (.cons (.set 8 (.tup (.cons (.bin .fdiv (.bin .add (.sub (.sub (.var 6) (.var 9)) (.cI 0)) (.sub (.sub (.var 6) (.var 10)) (.cI 0))) (.cI 2)) (.cons (.bin .fdiv (.bin .add (.sub (.sub (.var 6) (.var 9)) (.cI 1)) (.sub (.sub (.var 6) (.var 10)) (.cI 1))) (.cI 2)) .nil)))) .nil)) .nil) (.cons (.set 11 (.bin .add (.bin .add (.slc (.var 6) .no (.yes (.var 7))) (.tup (.cons (.var 8) .nil))) (.slc (.var 6) (.yes (.bin .add (.var 7) (.cI 1))) .no))) (.cons (.set 12 (.lc [("a", 9), ("b", 10)] (.tp (.cons (.nm 9) (.cons (.nm 10) .nil))) (.seq (.lc [("i", 17)] (.nm 17) (.rng1 (.cI 81)) .nil (.tup (.cons (.bin .fdiv (.var 17) (.cI 9)) (.cons (.bin .mod (.var 17) (.cI 9)) .nil))))) (.cons (.and (.cons (.chn .lt .lt (.var 9) (.var 10) (.var 3)) (.cons (.cmp .notin (.tup (.cons (.var 9) (.cons (.var 10) .nil))) (.sub (.var 5) (.cI 1))) .nil))) .nil) (.tup (.cons (.var 9) (.cons (.var 10) .nil))))) (.cons (.set 13 (.tup (.cons (.var 3) (.cons (.bi .tuple (.cons (.bi .sorted (.cons (.bin .add (.sub (.var 5) (.cI 1)) (.bi .tuple (.cons (.slc (.call 9 (.cons (.var 1) (.cons (.var 12) .nil))) .no (.yes (.cI 2))) .nil))) .nil)) .nil)) .nil)))) (.cons (.for_ (.tp (.cons (.nm 14) (.cons (.nm 15) .nil))) (.seq (.tup (.cons (.tup (.cons (.var 5) (.cons (.var 11) .nil))) (.cons (.tup (.cons (.var 13) (.cons (.var 6) .nil))) (.cons (.tup (.cons (.var 13) (.cons (.var 11) .nil))) .nil))))) (.cons (.ife (.cmp .ne (.bi .repr (.cons (.call 7 (.cons (.var 14) (.cons (.var 15) .nil))) .nil)) (.bi .repr (.cons (.call 14 (.cons (.var 14) (.cons (.var 15) .nil))) .nil))) (.cons (.ret (.cB false)) .nil) .nil) (.cons (.ife (.cmp .ne (.bi .repr (.cons (.call 4 (.cons (.var 14) (.cons (.var 15) .nil))) .nil)) (.bi .repr (.cons (.bi .tuple (.cons (.call 13 (.cons (.var 14) (.cons (.var 15) .nil))) .nil)) .nil))) (.cons (.ret (.cB false)) .nil) .nil) .nil))) (.cons (.set 16 (.lst (.cons .cN (.cons (.tup .nil) (.cons (.bi .list (.cons (.var 6) .nil)) (.cons (.bin .add (.var 6) (.tup (.cons (.tup (.cons (.cI 99) (.cons (.cI 99) .nil))) .nil))) (.cons (.slc (.var 6) .no (.yes (.neg (.cI 1)))) (.cons (.bin .add (.bin .add (.slc (.var 6) .no (.yes (.var 7))) (.tup (.cons (.bi .list (.cons (.var 8) .nil)) .nil))) (.slc (.var 6) (.yes (.bin .add (.var 7) (.cI 1))) .no)) (.cons (.cI 7) (.cons (.cS "places") .nil)))))))))) (.cons (.set 16 (.bin .add (.var 16) (.lc [("one", 18)] (.nm 18) (.seq (.tup (.cons (.tup (.cons (.cB true) (.cons (.cI 0) .nil))) (.cons (.tup (.cons (.cI 0) .nil)) (.cons (.tup (.cons (.cI 0) (.cons (.cI 0) (.cons (.cI 0) .nil)))) (.cons .cN (.cons (.tup (.cons (.cS "0") (.cons (.cI 0) .nil))) (.cons (.tup (.cons (.cI 0) (.cons (.lst (.cons (.cI 1) .nil)) .nil))) .nil)))))))) .nil (.bin .add (.bin .add (.slc (.var 6) .no (.yes (.var 7))) (.tup (.cons (.var 18) .nil))) (.slc (.var 6) (.yes (.bin .add (.var 7) (.cI 1))) .no))))) (.cons (.ife (.or (.cons (.bi .any (.cons (.lc [("value", 15)] (.nm 15) (.seq (.var 16)) (.cons (.cmp .ne (.var 15) (.tup .nil)) .nil) (.cmp .ne (.call 7 (.cons (.var 5) (.cons (.var 15) .nil))) (.tup (.cons (.cS "form") .nil)))) .nil)) (.cons (.cmp .ne (.call 7 (.cons (.var 5) (.cons (.tup .nil) .nil))) (.tup (.cons (.cS "form") .nil))) .nil))) (.cons (.ret (.cB false)) .nil) .nil) .nil))))))))))))))) (.cons (.ret (.cB true)) .nil))
abbrev s_law : Stmt := top 19
def c_law : Cxt := ⟨n_law, defScope s_law, fun _ => true, names, fun _ => false⟩
theorem k_law : chkSl c_law b_law ((defBody s_law).drop 1) = true := by decide +kernel
def tab : List Dfe := [.txt 3 3 b_turn, .txt 1 2 b_is_pair, .txt 3 3 b_is_between, .txt 3 8 b_do_meet, .txt 2 6 b_meetings, .txt 2 4 b_first_same, .txt 2 5 b_first_on, .txt 2 5 b_place_fault, .nat 2 1 pickN, .txt 2 4 b__law_any_order, .txt 3 4 b__law_side, .txt 3 4 b__law_lies, .txt 4 4 b__law_meet, .txt 2 8 b__law_meetings, .txt 2 8 b__law_fault, .txt 3 13 b__law_draw_clear]
theorem t_turn : tab[0]? = some (.txt 3 3 b_turn) := rfl
theorem t_is_pair : tab[1]? = some (.txt 1 2 b_is_pair) := rfl
theorem t_is_between : tab[2]? = some (.txt 3 3 b_is_between) := rfl
theorem t_do_meet : tab[3]? = some (.txt 3 8 b_do_meet) := rfl
theorem t_meetings : tab[4]? = some (.txt 2 6 b_meetings) := rfl
theorem t_first_same : tab[5]? = some (.txt 2 4 b_first_same) := rfl
theorem t_first_on : tab[6]? = some (.txt 2 5 b_first_on) := rfl
theorem t_place_fault : tab[7]? = some (.txt 2 5 b_place_fault) := rfl
theorem t__law_pick : tab[8]? = some (.nat 2 1 pickN) := rfl
theorem t__law_any_order : tab[9]? = some (.txt 2 4 b__law_any_order) := rfl
theorem t__law_side : tab[10]? = some (.txt 3 4 b__law_side) := rfl
theorem t__law_lies : tab[11]? = some (.txt 3 4 b__law_lies) := rfl
theorem t__law_meet : tab[12]? = some (.txt 4 4 b__law_meet) := rfl
theorem t__law_meetings : tab[13]? = some (.txt 2 8 b__law_meetings) := rfl
theorem t__law_fault : tab[14]? = some (.txt 2 8 b__law_fault) := rfl
theorem t__law_draw_clear : tab[15]? = some (.txt 3 13 b__law_draw_clear) := rfl
end K37

set_option Elab.async false
set_option linter.all false
set_option maxRecDepth 100000
set_option maxHeartbeats 8000000
set_option autoImplicit false
namespace K37
open PySem PySem.Spec L2 DL
def n_pick : List Str := ["source", "most", "cells", "others", "lap", "stirred"]
abbrev s_pick : Stmt := top 11
theorem sc_pick : FnScope n_pick ["source", "most"] (defScope s_pick) := ⟨rfl, rfl, rfl, by decide +kernel, rfl, by decide +kernel, by decide +kernel⟩
theorem lt_refl2 {m : Int} (h : m < 2) : decide (m < 2) = true := decide_eq_true h
theorem pick_ok {P : Program} {w : World} {K : PySem.W.Frag} {mg : Str → Option Value} {base : Heap} {XR : XRT} {f : Addr} {fd : FuncData} (Fu : Fun K "_law_pick" "_law_pick" s_pick f fd) (bi : ∀ x, x ∈ bnames → mg x = none) :
    FnG P w K mg base 1 f fd ["source", "most"] (SpD K XR 2 pickN) := by
  refine fnG_of Fu sc_pick (fun vs H Q E h => h.1) fun cdv A outer s H vs Q E hr hg hsp => ?_
  obtain ⟨hl, F, ow, as, w0, R, hhi, hA, o⟩ := hsp
  have hu : (A.deeper (PyProof.Rows.envOfC "_law_pick" (defScope s_pick) s.heap.objs.size f cdv)).units + 1 < cLine := by have := hr.un; omega
  have shape : ∃ m s0, as = [.src, .fz (.int m)] ∧ w0 = some s0 ∧ m < 2 ^ 62 := by
    unfold pickN at o
    split at o
    · rename_i m s0
      split at o
      · rename_i q
        exact ⟨m, s0, rfl, rfl, q⟩
      · exact o.elim
    · exact o.elim
  obtain ⟨m, s0, rfl, rfl, hm62⟩ := shape
  obtain ⟨a, c, h1, h2, h3, h4, k0⟩ := src_of R.wld
  cases hA with
  | cons q1 hA =>
    cases hA with
    | cons q2 hA =>
      cases hA
      obtain ⟨p, rfl, hp⟩ := q1
      obtain rfl : p = a := h3 p hp
      cases (show Rp K F _ (.int m) from q2)
      have fin : ∀ H', SrcK H H' p c (pickB m s0).2 → Q (.int (pickB m s0).1) H' := by
        intro H' k
        unfold pickN at o
        simp only [if_pos hm62] at o
        obtain ⟨s1, R1⟩ := k.rel R h1 h2 h3 h4
        exact o F ow H' _ s1 R1 (Rp.int _)
      have S : FnScope n_pick ["source", "most"] (defScope s_pick) := sc_pick
      have hp0 : PassesOwn (model (cxOf (L2.CX P w) P w K mg base n_pick "_law_pick" (defScope s_pick) f cdv A outer s H E).prog (cxOf (L2.CX P w) P w K mg base n_pick "_law_pick" (defScope s_pick) f cdv A outer s H E).w) (cxOf (L2.CX P w) P w K mg base n_pick "_law_pick" (defScope s_pick) f cdv A outer s H E).A (cxOf (L2.CX P w) P w K mg base n_pick "_law_pick" (defScope s_pick) f cdv A outer s H E).env (cxOf (L2.CX P w) P w K mg base n_pick "_law_pick" (defScope s_pick) f cdv A outer s H E).xe := passes_of rfl
      have bl : mg "len" = none := bi _ (by decide)
      have bn : mg "int" = none := bi _ (by decide)
      refine ⟨tPickB K, pss_cons (ps_if (pt_cmpR op_lt (pv 1) pe_int (nomark _)) (pss_one (ps_ret pe_int)) pss_nil)
        (pss_cons (ps_set (i := 2) S.nd rfl (Or.inl rfl) (pe_dget hu (pv 0) pe_str (fun _ _ => rfl)))
        (pss_cons (ps_while hp0 (pw_and (pt_cmpR op_lt (pe_dget hu (pv 0) pe_str (fun _ _ => rfl)) pe_int (nomark _)) (pw_and1 (pt_cmpR op_gt (pe_callB call_len_seq (by rfl) bl PySem.boot_len (pa_cons (pv 2) pa_nil)) pe_int (nomark _)))).pt
            (pss_one (ps_dput hu (pv 0) pe_str (pe_bm0 PySem.F.plainAttrs_list PySem.F.slot_list_pop PySem.F.type_list_pop mt_pop (pv 2)) rfl)))
        (pss_cons (ps_set (i := 3) S.nd rfl (Or.inl rfl) (pe_dget hu (pv 0) pe_str (fun _ _ => rfl)))
        (pss_cons (ps_if (pt_cmpR op_gt (pv 3) pe_int (nomark _))
            (pss_cons (ps_dput hu (pv 0) pe_str (pe_op op_fdivW (pv 3) (pv 1)) rfl) (pss_one (ps_ret (pe_op op_mod (pe_callTy call_int1 (by rfl) bn PySem.Pv.boot_int (pa_cons (pv 3) pa_nil)) (pv 1))))) pss_nil)
        (pss_cons (ps_dput hu (pv 0) pe_str (pe_op op_add (pe_dget hu (pv 0) pe_str (fun _ _ => rfl)) pe_int) rfl)
        (pss_cons (ps_set (i := 4) S.nd rfl (Or.inl rfl) (pe_dget hu (pv 0) pe_str (fun _ _ => rfl)))
        (pss_cons (ps_set (i := 5) S.nd rfl (Or.inl rfl) (pe_op op_mod (pe_callTy call_int1 (by rfl) bn PySem.Pv.boot_int (pa_cons (pe_op op_add (pe_dget hu (pv 0) pe_str (fun _ _ => rfl)) (pe_op op_mul (pv 4) pe_int)) pa_nil)) pe_int))
        (pss_cons (ps_set (i := 5) S.nd rfl (Or.inl rfl) (pe_op op_mod (pe_callTy call_int1 (by rfl) bn PySem.Pv.boot_int (pa_cons (pe_op op_add (pe_op op_mul (pv 5) (pv 5)) (pe_op op_mul (pv 4) pe_int)) pa_nil)) pe_int))
        (pss_one (ps_ret (pe_op op_mod (pe_callTy call_int1 (by rfl) bn PySem.Pv.boot_int (pa_cons (pe_op op_fdivW (pv 5) pe_int) pa_nil)) (pv 1)))))))))))), pickB_run hm62 k0 fin⟩
end K37

namespace K37
open PySem PySem.Spec L2 DL
def n_open : List Str := ["script", "stirred", "cells", "cell"]
abbrev s_open : Stmt := top 10
theorem sc_open : FnScope n_open ["script"] (defScope s_open) := ⟨rfl, rfl, rfl, by decide +kernel, rfl, by decide +kernel, by decide +kernel⟩
theorem open_ok {P : Program} {w : World} {K : PySem.W.Frag} {mg : Str → Option Value} {base : Heap} {f : Addr} {fd : FuncData} (Fu : Fun K "_law_open_cells" "_law_open_cells" s_open f fd) (bi : ∀ x, x ∈ bnames → mg x = none) :
    FnG P w K mg base 1 f fd ["script"] (spOpen K) := by
  refine fnG_of Fu sc_open (fun vs H Q E h => ?_) fun cdv A outer s H vs Q E hr hg hsp => ?_
  · obtain ⟨a, ns, rfl, _⟩ := h
    rfl
  obtain ⟨a, ns, rfl, hS, hn, fin⟩ := hsp
  have S : FnScope n_open ["script"] (defScope s_open) := sc_open
  have hp0 : PassesOwn (model (cxOf (L2.CX P w) P w K mg base n_open "_law_open_cells" (defScope s_open) f cdv A outer s H E).prog (cxOf (L2.CX P w) P w K mg base n_open "_law_open_cells" (defScope s_open) f cdv A outer s H E).w) (cxOf (L2.CX P w) P w K mg base n_open "_law_open_cells" (defScope s_open) f cdv A outer s H E).A (cxOf (L2.CX P w) P w K mg base n_open "_law_open_cells" (defScope s_open) f cdv A outer s H E).env (cxOf (L2.CX P w) P w K mg base n_open "_law_open_cells" (defScope s_open) f cdv A outer s H E).xe := passes_of rfl
  have ba : mg "abs" = none := bi _ (by decide)
  have bn : mg "int" = none := bi _ (by decide)
  refine ⟨tOpenB K, pss_cons (ps_set (i := 1) S.nd rfl (Or.inl rfl) pe_int)
    (pss_cons (ps_for hp0 rfl (pi_list (pv 0)) (pg_name (i := 3) S.nd rfl (Or.inl rfl))
      (pss_one (ps_set (i := 1) S.nd rfl (Or.inl rfl) (pe_op op_mod (pe_callTy call_int1 (by rfl) bn PySem.Pv.boot_int (pa_cons (pe_op op_add (pe_op op_add (pe_op op_mul (pv 1) pe_int) (pe_op op_mul (pv 3) pe_int)) pe_int) pa_nil)) pe_int))))
    (pss_cons (ps_setLc (i := 2) (own := [("cell", 3)]) rfl S.nd rfl rfl (sw_true rfl rfl rfl rfl) (pi_list (pv 0)) (blkOk_by (by show blkC n_open (defScope s_open) _ [("cell", 3)] = true; decide +kernel)) (fun _ _ _ _ _ => pg_name (i := 3) S.nd rfl (Or.inl rfl)) (fun _ _ _ _ _ => pts_nil)
      (fun _ _ _ _ _ => pe_callB call_abs (by rfl) ba (bi_boot .abs) (pa_cons (pv 3) pa_nil)))
    (pss_one (ps_ret (pe_disp (pps_cons pe_str (pe_revL (pv 2)) (pps_cons pe_str pe_int (pps_cons pe_str (pv 1) (pps_cons pe_str pe_int pps_nil)))) rfl rfl (by simp) (by decide)))))), openB_run hS hn fin⟩
end K37


set_option Elab.async false
set_option linter.all false
set_option maxRecDepth 100000
set_option maxHeartbeats 8000000
set_option exponentiation.threshold 1000
set_option autoImplicit false
namespace K37
open PySem PySem.Spec L2 DL
abbrev Pt := Int × Int
def pt (p : Pt) : PyData := .tuple [.int p.1, .int p.2]
theorem pt0 (p : Pt) : subD (pt p) (.int 0) = some (.int p.1) := by simp only [pt, q_subT, atI_lit, List.getElem?_cons_zero]
theorem pt1 (p : Pt) : subD (pt p) (.int 1) = some (.int p.2) := by simp only [pt, q_subT, atI_lit, List.getElem?_cons_succ, List.getElem?_cons_zero]
def SmP (p : Pt) : Prop := Sm p.1 ∧ Sm p.2
def turnZ (p q r : Pt) : Int := (q.1 - p.1) * (r.2 - p.2) - (q.2 - p.2) * (r.1 - p.1)
theorem m_turn (k : Nat) (w : Wd) (p q r : Pt) (hp : SmP p) (hq : SmP q) (hr : SmP r) : fnAt tab (k + 1) 0 [.fz (pt p), .fz (pt q), .fz (pt r)] w = .ok (.fz (.int (turnZ p q r))) w := by
  have g1 : (q.1 - p.1).natAbs.log2 + (r.2 - p.2).natAbs.log2 < 1000000 := by unfold SmP Sm at *; exact mul_ok (by omega) (by omega)
  have g2 : (q.2 - p.2).natAbs.log2 + (r.1 - p.1).natAbs.log2 < 1000000 := by unfold SmP Sm at *; exact mul_ok (by omega) (by omega)
  rw [fnAt_txt t_turn (by decide) k _ w rfl]
  simp only [b_turn, pt0, pt1, turnZ, e_ev_var, e_ev_cI, e_ev_cS, e_ev_cN, e_ev_cB, e_ev_neg, e_ev_tup, e_ev_lst, e_ev_bin, e_ev_cmp, e_ev_chn, e_ev_and, e_ev_or, e_ev_not, e_ev_ite, e_ev_sub, e_ev_slc, e_ev_rev, e_ev_call, e_ev_bi, e_ev_isi, e_ev_index, e_ev_pop, e_ev_popAt, e_evs_nil, e_evs_cons, e_evAnd_one, e_evAnd_more, e_evOr_one, e_evOr_more, e_evO_no, e_evO_yes, e_evI_seq, e_evI_rng1, e_evI_rng2, e_evI_enm, e_evI_zp, e_xS_asg, e_xS_set, e_xS_par, e_xS_par3, e_xS_exp, e_xS_app, e_xS_ext, e_xS_setIx, e_xS_ret, e_xS_ife, e_xS_pas, e_xS_brk, e_xS_cnt, e_xS_nev, e_xsl_nil, e_xsl_cons, q_bind, q_toS, q_seq1, q_seq2, q_seq3, q_seq4, q_end1, q_end2, q_tst, q_pick, q_ret1, q_ret2, q_ret3, q_dv1, q_dv2, q_es1, q_es2, q_ea0, q_ea1, q_ea2, q_ea3, q_ec1, line0, line1, line2, line3, line4, line5, line6, line7, line8, q_sk1, q_sk2, q_sk3, q_noX, q_hold1, q_hold2, q_frz1, id, q_goS, q_sv1, q_sv2, q_sv3, q_ub1, q_ub2, q_pv, parS, parS3, Nat.reduceLT, Nat.reduceLeDiff, q_andK, q_orK, q_chnK, q_ite1, q_ite2, q_ite3, q_ite4, q_ite5, decide_eq_true_eq, Bool.not_eq_true', decide_eq_false_iff_not, q_add, q_sub, q_lt, q_le, q_gt, q_ge, q_eqI, q_neI, q_len1, q_len2, q_int1, q_int2, q_min, q_max, q_tup1, q_tup2, q_lst1, q_lst2, q_subL, q_subT, q_slL, q_slT, argE, List.getElem?_cons_zero, List.getElem?_cons_succ, List.getElem?_nil, List.map_cons, List.map_nil, List.replicate, List.nil_append, List.cons_append, List.append_nil, Option.map_some, Option.map_none, if_true, if_false, reduceIte, List.length_cons, List.length_nil, Nat.reduceAdd, Nat.reduceSub, List.mapM_cons, List.mapM_nil, Option.bind_eq_bind, Option.bind_some, Option.pure_def, atI_lit, List.set_cons_zero, List.set_cons_succ, q_as1, q_as2, q_as3, q_as4, q_as5, q_wp0, q_wp1, q_kp0, q_kp1, q_ed0, q_ed1, Bool.false_eq_true, Bool.not_true, Bool.not_false, q_mul g1, q_mul g2]
theorem mul_bd {a b : Int} (ha : -(2 ^ 66) ≤ a ∧ a ≤ 2 ^ 66) (hb : -(2 ^ 66) ≤ b ∧ b ≤ 2 ^ 66) : -(2 ^ 132) ≤ a * b ∧ a * b ≤ 2 ^ 132 := by
  have h1 : a.natAbs ≤ 2 ^ 66 := by omega
  have h2 : b.natAbs ≤ 2 ^ 66 := by omega
  have h3 : (a * b).natAbs ≤ 2 ^ 66 * 2 ^ 66 := by rw [Int.natAbs_mul]; exact Nat.mul_le_mul h1 h2
  omega
theorem turn_bd {p q r : Pt} (hp : SmP p) (hq : SmP q) (hr : SmP r) : -(2 ^ 200) ≤ turnZ p q r ∧ turnZ p q r ≤ 2 ^ 200 := by
  unfold SmP Sm at *
  have h1 := mul_bd (a := q.1 - p.1) (b := r.2 - p.2) (by omega) (by omega)
  have h2 := mul_bd (a := q.2 - p.2) (b := r.1 - p.1) (by omega) (by omega)
  unfold turnZ
  omega
def betwZ (p q r : Pt) : Bool := decide (turnZ p q r = 0 ∧ ((if q.1 < p.1 then q.1 else p.1) ≤ r.1 ∧ r.1 ≤ (if q.1 > p.1 then q.1 else p.1)) ∧ (if q.2 < p.2 then q.2 else p.2) ≤ r.2 ∧ r.2 ≤ (if q.2 > p.2 then q.2 else p.2))
theorem m_is_between (k : Nat) (w : Wd) (p q r : Pt) (hp : SmP p) (hq : SmP q) (hr : SmP r) : fnAt tab (k + 2) 2 [.fz (pt p), .fz (pt q), .fz (pt r)] w = .ok (.fz (.bool (betwZ p q r))) w := by
  rw [fnAt_txt t_is_between (by decide) (k + 1) _ w rfl]
  simp only [b_is_between, pt0, pt1, e_ev_var, e_ev_cI, e_ev_cS, e_ev_cN, e_ev_cB, e_ev_neg, e_ev_tup, e_ev_lst, e_ev_bin, e_ev_cmp, e_ev_chn, e_ev_and, e_ev_or, e_ev_not, e_ev_ite, e_ev_sub, e_ev_slc, e_ev_rev, e_ev_call, e_ev_bi, e_ev_isi, e_ev_index, e_ev_pop, e_ev_popAt, e_evs_nil, e_evs_cons, e_evAnd_one, e_evAnd_more, e_evOr_one, e_evOr_more, e_evO_no, e_evO_yes, e_evI_seq, e_evI_rng1, e_evI_rng2, e_evI_enm, e_evI_zp, e_xS_asg, e_xS_set, e_xS_par, e_xS_par3, e_xS_exp, e_xS_app, e_xS_ext, e_xS_setIx, e_xS_ret, e_xS_ife, e_xS_pas, e_xS_brk, e_xS_cnt, e_xS_nev, e_xsl_nil, e_xsl_cons, q_bind, q_toS, q_seq1, q_seq2, q_seq3, q_seq4, q_end1, q_end2, q_tst, q_pick, q_ret1, q_ret2, q_ret3, q_dv1, q_dv2, q_es1, q_es2, q_ea0, q_ea1, q_ea2, q_ea3, q_ec1, line0, line1, line2, line3, line4, line5, line6, line7, line8, q_sk1, q_sk2, q_sk3, q_noX, q_hold1, q_hold2, q_frz1, id, q_goS, q_sv1, q_sv2, q_sv3, q_ub1, q_ub2, q_pv, parS, parS3, Nat.reduceLT, Nat.reduceLeDiff, q_andK, q_orK, q_chnK, q_ite1, q_ite2, q_ite3, q_ite4, q_ite5, decide_eq_true_eq, Bool.not_eq_true', decide_eq_false_iff_not, q_add, q_sub, q_lt, q_le, q_gt, q_ge, q_eqI, q_neI, q_len1, q_len2, q_int1, q_int2, q_min, q_max, q_tup1, q_tup2, q_lst1, q_lst2, q_subL, q_subT, q_slL, q_slT, argE, List.getElem?_cons_zero, List.getElem?_cons_succ, List.getElem?_nil, List.map_cons, List.map_nil, List.replicate, List.nil_append, List.cons_append, List.append_nil, Option.map_some, Option.map_none, if_true, if_false, reduceIte, List.length_cons, List.length_nil, Nat.reduceAdd, Nat.reduceSub, List.mapM_cons, List.mapM_nil, Option.bind_eq_bind, Option.bind_some, Option.pure_def, atI_lit, List.set_cons_zero, List.set_cons_succ, q_as1, q_as2, q_as3, q_as4, q_as5, q_wp0, q_wp1, q_kp0, q_kp1, q_ed0, q_ed1, Bool.false_eq_true, Bool.not_true, Bool.not_false, m_turn k w p q r hp hq hr]
  by_cases h0 : turnZ p q r = 0
  · rw [if_neg (by simpa using h0)]
    by_cases h1 : (if q.1 < p.1 then q.1 else p.1) ≤ r.1
    · by_cases h2 : r.1 ≤ (if q.1 > p.1 then q.1 else p.1)
      · by_cases h3 : (if q.2 < p.2 then q.2 else p.2) ≤ r.2
        · rw [if_pos h1, if_pos h2, if_pos h3]
          simp only [betwZ, h0, h1, h2, h3, true_and]
        · rw [if_pos h1, if_pos h2, if_neg h3]
          simp only [betwZ, h3, false_and, and_false, decide_false]
      · rw [if_pos h1, if_neg h2]
        simp only [betwZ, h2, false_and, and_false, decide_false]
    · rw [if_neg h1]
      simp only [betwZ, h1, false_and, and_false, decide_false]
  · rw [if_pos h0]
    simp only [betwZ, h0, false_and, decide_false]
def sideZ (p q r : Pt) : Int := (if 0 < turnZ p q r then 1 else 0) - (if turnZ p q r < 0 then 1 else 0)
theorem m_side (k : Nat) (w : Wd) (p q r : Pt) (hp : SmP p) (hq : SmP q) (hr : SmP r) : fnAt tab (k + 1) 10 [.fz (pt p), .fz (pt q), .fz (pt r)] w = .ok (.fz (.int (sideZ p q r))) w := by
  have g1 : (q.1 - p.1).natAbs.log2 + (r.2 - p.2).natAbs.log2 < 1000000 := by unfold SmP Sm at *; exact mul_ok (by omega) (by omega)
  have g2 : (q.2 - p.2).natAbs.log2 + (r.1 - p.1).natAbs.log2 < 1000000 := by unfold SmP Sm at *; exact mul_ok (by omega) (by omega)
  rw [fnAt_txt t__law_side (by decide) k _ w rfl]
  simp only [b__law_side, pt0, pt1, e_ev_var, e_ev_cI, e_ev_cS, e_ev_cN, e_ev_cB, e_ev_neg, e_ev_tup, e_ev_lst, e_ev_bin, e_ev_cmp, e_ev_chn, e_ev_and, e_ev_or, e_ev_not, e_ev_ite, e_ev_sub, e_ev_slc, e_ev_rev, e_ev_call, e_ev_bi, e_ev_isi, e_ev_index, e_ev_pop, e_ev_popAt, e_evs_nil, e_evs_cons, e_evAnd_one, e_evAnd_more, e_evOr_one, e_evOr_more, e_evO_no, e_evO_yes, e_evI_seq, e_evI_rng1, e_evI_rng2, e_evI_enm, e_evI_zp, e_xS_asg, e_xS_set, e_xS_par, e_xS_par3, e_xS_exp, e_xS_app, e_xS_ext, e_xS_setIx, e_xS_ret, e_xS_ife, e_xS_pas, e_xS_brk, e_xS_cnt, e_xS_nev, e_xsl_nil, e_xsl_cons, q_bind, q_toS, q_seq1, q_seq2, q_seq3, q_seq4, q_end1, q_end2, q_tst, q_pick, q_ret1, q_ret2, q_ret3, q_dv1, q_dv2, q_es1, q_es2, q_ea0, q_ea1, q_ea2, q_ea3, q_ec1, line0, line1, line2, line3, line4, line5, line6, line7, line8, q_sk1, q_sk2, q_sk3, q_noX, q_hold1, q_hold2, q_frz1, id, q_goS, q_sv1, q_sv2, q_sv3, q_ub1, q_ub2, q_pv, parS, parS3, Nat.reduceLT, Nat.reduceLeDiff, q_andK, q_orK, q_chnK, q_ite1, q_ite2, q_ite3, q_ite4, q_ite5, decide_eq_true_eq, Bool.not_eq_true', decide_eq_false_iff_not, q_add, q_sub, q_lt, q_le, q_gt, q_ge, q_eqI, q_neI, q_len1, q_len2, q_int1, q_int2, q_min, q_max, q_tup1, q_tup2, q_lst1, q_lst2, q_subL, q_subT, q_slL, q_slT, argE, List.getElem?_cons_zero, List.getElem?_cons_succ, List.getElem?_nil, List.map_cons, List.map_nil, List.replicate, List.nil_append, List.cons_append, List.append_nil, Option.map_some, Option.map_none, if_true, if_false, reduceIte, List.length_cons, List.length_nil, Nat.reduceAdd, Nat.reduceSub, List.mapM_cons, List.mapM_nil, Option.bind_eq_bind, Option.bind_some, Option.pure_def, atI_lit, List.set_cons_zero, List.set_cons_succ, q_as1, q_as2, q_as3, q_as4, q_as5, q_wp0, q_wp1, q_kp0, q_kp1, q_ed0, q_ed1, Bool.false_eq_true, Bool.not_true, Bool.not_false, q_mul g1, q_mul g2]
  rw [show (q.1 - p.1) * (r.2 - p.2) - (q.2 - p.2) * (r.1 - p.1) = turnZ p q r from rfl]
  unfold sideZ
  by_cases h : 0 < turnZ p q r <;> by_cases h' : turnZ p q r < 0 <;> simp only [h, h', if_true, if_false]
def liesZ (p q r : Pt) : Bool := decide (sideZ p q r = 0 ∧ (r.1 - p.1) * (r.1 - q.1) + (r.2 - p.2) * (r.2 - q.2) ≤ 0)
theorem m_lies (k : Nat) (w : Wd) (p q r : Pt) (hp : SmP p) (hq : SmP q) (hr : SmP r) : fnAt tab (k + 2) 11 [.fz (pt p), .fz (pt q), .fz (pt r)] w = .ok (.fz (.bool (liesZ p q r))) w := by
  have g1 : (r.1 - p.1).natAbs.log2 + (r.1 - q.1).natAbs.log2 < 1000000 := by unfold SmP Sm at *; exact mul_ok (by omega) (by omega)
  have g2 : (r.2 - p.2).natAbs.log2 + (r.2 - q.2).natAbs.log2 < 1000000 := by unfold SmP Sm at *; exact mul_ok (by omega) (by omega)
  rw [fnAt_txt t__law_lies (by decide) (k + 1) _ w rfl]
  simp only [b__law_lies, pt0, pt1, e_ev_var, e_ev_cI, e_ev_cS, e_ev_cN, e_ev_cB, e_ev_neg, e_ev_tup, e_ev_lst, e_ev_bin, e_ev_cmp, e_ev_chn, e_ev_and, e_ev_or, e_ev_not, e_ev_ite, e_ev_sub, e_ev_slc, e_ev_rev, e_ev_call, e_ev_bi, e_ev_isi, e_ev_index, e_ev_pop, e_ev_popAt, e_evs_nil, e_evs_cons, e_evAnd_one, e_evAnd_more, e_evOr_one, e_evOr_more, e_evO_no, e_evO_yes, e_evI_seq, e_evI_rng1, e_evI_rng2, e_evI_enm, e_evI_zp, e_xS_asg, e_xS_set, e_xS_par, e_xS_par3, e_xS_exp, e_xS_app, e_xS_ext, e_xS_setIx, e_xS_ret, e_xS_ife, e_xS_pas, e_xS_brk, e_xS_cnt, e_xS_nev, e_xsl_nil, e_xsl_cons, q_bind, q_toS, q_seq1, q_seq2, q_seq3, q_seq4, q_end1, q_end2, q_tst, q_pick, q_ret1, q_ret2, q_ret3, q_dv1, q_dv2, q_es1, q_es2, q_ea0, q_ea1, q_ea2, q_ea3, q_ec1, line0, line1, line2, line3, line4, line5, line6, line7, line8, q_sk1, q_sk2, q_sk3, q_noX, q_hold1, q_hold2, q_frz1, id, q_goS, q_sv1, q_sv2, q_sv3, q_ub1, q_ub2, q_pv, parS, parS3, Nat.reduceLT, Nat.reduceLeDiff, q_andK, q_orK, q_chnK, q_ite1, q_ite2, q_ite3, q_ite4, q_ite5, decide_eq_true_eq, Bool.not_eq_true', decide_eq_false_iff_not, q_add, q_sub, q_lt, q_le, q_gt, q_ge, q_eqI, q_neI, q_len1, q_len2, q_int1, q_int2, q_min, q_max, q_tup1, q_tup2, q_lst1, q_lst2, q_subL, q_subT, q_slL, q_slT, argE, List.getElem?_cons_zero, List.getElem?_cons_succ, List.getElem?_nil, List.map_cons, List.map_nil, List.replicate, List.nil_append, List.cons_append, List.append_nil, Option.map_some, Option.map_none, if_true, if_false, reduceIte, List.length_cons, List.length_nil, Nat.reduceAdd, Nat.reduceSub, List.mapM_cons, List.mapM_nil, Option.bind_eq_bind, Option.bind_some, Option.pure_def, atI_lit, List.set_cons_zero, List.set_cons_succ, q_as1, q_as2, q_as3, q_as4, q_as5, q_wp0, q_wp1, q_kp0, q_kp1, q_ed0, q_ed1, Bool.false_eq_true, Bool.not_true, Bool.not_false, q_mul g1, q_mul g2, m_side k w p q r hp hq hr]
  unfold liesZ
  by_cases h : sideZ p q r = 0
  · rw [if_pos h]
    simp only [h, true_and]
  · rw [if_neg h]
    simp only [h, false_and, decide_false]

/-! ### webs, ties, places -/
abbrev Tie := Nat × Nat
def tieD (t : Tie) : PyData := .tuple [.int (t.1 : Nat), .int (t.2 : Nat)]
def tiesD (ts : List Tie) : PyData := .tuple (ts.map tieD)
def webD (n : Nat) (ts : List Tie) : PyData := .tuple [.int (n : Nat), tiesD ts]
def plD (ps : List Pt) : PyData := .tuple (ps.map pt)
theorem tie0 (t : Tie) : subD (tieD t) (.int 0) = some (.int (t.1 : Nat)) := by simp only [tieD, q_subT, atI_lit, List.getElem?_cons_zero]
theorem tie1 (t : Tie) : subD (tieD t) (.int 1) = some (.int (t.2 : Nat)) := by simp only [tieD, q_subT, atI_lit, List.getElem?_cons_succ, List.getElem?_cons_zero]
theorem web0 (n : Nat) (ts : List Tie) : subD (webD n ts) (.int 0) = some (.int (n : Nat)) := by simp only [webD, q_subT, atI_lit, List.getElem?_cons_zero]
theorem web1 (n : Nat) (ts : List Tie) : subD (webD n ts) (.int 1) = some (tiesD ts) := by simp only [webD, q_subT, atI_lit, List.getElem?_cons_succ, List.getElem?_cons_zero]
/-- the place of a name -/
def at_ (ps : List Pt) (i : Nat) : Pt := ps.getD i (0, 0)
theorem pl_at (ps : List Pt) (i : Nat) (h : i < ps.length) : subD (plD ps) (.int (i : Nat)) = some (pt (at_ ps i)) := by
  simp only [plD, q_subT, DL.atI_nat, List.getElem?_map, List.getElem?_eq_getElem h, Option.map_some, at_, List.getD_eq_getElem?_getD, Option.getD_some]
structure Ok (n : Nat) (ts : List Tie) (ps : List Pt) : Prop where
  n1 : 1 ≤ n
  n9 : n ≤ 63
  len : ps.length = n
  sm : ∀ p, p ∈ ps → SmP p
  tie : ∀ t, t ∈ ts → t.1 < n ∧ t.2 < n
  few : ts.length ≤ 100
theorem Ok.at {n : Nat} {ts : List Tie} {ps : List Pt} (o : Ok n ts ps) {i : Nat} (h : i < n) : SmP (at_ ps i) := by
  have h' : i < ps.length := by rw [o.len]; exact h
  apply o.sm
  simp only [at_, List.getD_eq_getElem?_getD, List.getElem?_eq_getElem h', Option.getD_some]
  exact List.getElem_mem h'
def meetZ (p q r s : Pt) : Bool := (betwZ p q r || betwZ p q s || betwZ r s p || betwZ r s q) || (decide (turnZ p q r * turnZ p q s < 0) && decide (turnZ r s p * turnZ r s q < 0))
theorem m_do_meet (k : Nat) (w : Wd) {n : Nat} {ts : List Tie} {ps : List Pt} (o : Ok n ts ps) (s t : Tie) (hs : s.1 < n ∧ s.2 < n) (ht : t.1 < n ∧ t.2 < n) :
    fnAt tab (k + 3) 3 [.fz (plD ps), .fz (tieD s), .fz (tieD t)] w = .ok (.fz (.bool (meetZ (at_ ps s.1) (at_ ps s.2) (at_ ps t.1) (at_ ps t.2)))) w := by
  have o1 := o.at hs.1
  have o2 := o.at hs.2
  have o3 := o.at ht.1
  have o4 := o.at ht.2
  rw [fnAt_txt t_do_meet (by decide) (k + 2) _ w rfl]
  have hc : binD .add (tieD s) (tieD t) = some (.fz (.tuple [.int (s.1 : Nat), .int (s.2 : Nat), .int (t.1 : Nat), .int (t.2 : Nat)])) := q_catT (line_ge (by simp))
  have hl : ∀ fn, ev fn (.lc [("name", 7)] (.nm 7) (.seq (.bin .add (.var 1) (.var 2))) .nil (.sub (.var 0) (.var 7))) [some (.fz (plD ps)), some (.fz (tieD s)), some (.fz (tieD t)), none, none, none, none, none] w
      = .ok (.lst [pt (at_ ps s.1), pt (at_ ps s.2), pt (at_ ps t.1), pt (at_ ps t.2)]) [some (.fz (plD ps)), some (.fz (tieD s)), some (.fz (tieD t)), none, none, none, none, none] w := by
    intro fn
    have hx : ∀ i : Nat, i < n → subD (plD ps) (.int (i : Nat)) = some (pt (at_ ps i)) := fun i hi => pl_at ps i (by rw [o.len]; exact hi)
    refine (ev_map (k := ⟨[.int (s.1 : Nat), .int (s.2 : Nat), .int (t.1 : Nat), .int (t.2 : Nat)], none, []⟩) (e1 := [some (.fz (plD ps)), some (.fz (tieD s)), some (.fz (tieD t)), none, none, none, none, none])
      (fun d => match subD (plD ps) d with | some z => z | none => d) (by simp only [e_ev_var, e_ev_cI, e_ev_cS, e_ev_cN, e_ev_cB, e_ev_neg, e_ev_tup, e_ev_lst, e_ev_bin, e_ev_cmp, e_ev_chn, e_ev_and, e_ev_or, e_ev_not, e_ev_ite, e_ev_sub, e_ev_slc, e_ev_rev, e_ev_call, e_ev_bi, e_ev_isi, e_ev_index, e_ev_pop, e_ev_popAt, e_evs_nil, e_evs_cons, e_evAnd_one, e_evAnd_more, e_evOr_one, e_evOr_more, e_evO_no, e_evO_yes, e_evI_seq, e_evI_rng1, e_evI_rng2, e_evI_enm, e_evI_zp, e_xS_asg, e_xS_set, e_xS_par, e_xS_par3, e_xS_exp, e_xS_app, e_xS_ext, e_xS_setIx, e_xS_ret, e_xS_ife, e_xS_pas, e_xS_brk, e_xS_cnt, e_xS_nev, e_xsl_nil, e_xsl_cons, q_bind, q_toS, q_seq1, q_seq2, q_seq3, q_seq4, q_end1, q_end2, q_tst, q_pick, q_ret1, q_ret2, q_ret3, q_dv1, q_dv2, q_es1, q_es2, q_ea0, q_ea1, q_ea2, q_ea3, q_ec1, line0, line1, line2, line3, line4, line5, line6, line7, line8, q_sk1, q_sk2, q_sk3, q_noX, q_hold1, q_hold2, q_frz1, id, q_goS, q_sv1, q_sv2, q_sv3, q_ub1, q_ub2, q_pv, parS, parS3, Nat.reduceLT, Nat.reduceLeDiff, q_andK, q_orK, q_chnK, q_ite1, q_ite2, q_ite3, q_ite4, q_ite5, decide_eq_true_eq, Bool.not_eq_true', decide_eq_false_iff_not, q_add, q_sub, q_lt, q_le, q_gt, q_ge, q_eqI, q_neI, q_len1, q_len2, q_int1, q_int2, q_min, q_max, q_tup1, q_tup2, q_lst1, q_lst2, q_subL, q_subT, q_slL, q_slT, argE, List.getElem?_cons_zero, List.getElem?_cons_succ, List.getElem?_nil, List.map_cons, List.map_nil, List.replicate, List.nil_append, List.cons_append, List.append_nil, Option.map_some, Option.map_none, if_true, if_false, reduceIte, List.length_cons, List.length_nil, Nat.reduceAdd, Nat.reduceSub, List.mapM_cons, List.mapM_nil, Option.bind_eq_bind, Option.bind_some, Option.pure_def, atI_lit, List.set_cons_zero, List.set_cons_succ, q_as1, q_as2, q_as3, q_as4, q_as5, q_wp0, q_wp1, q_kp0, q_kp1, q_ed0, q_ed1, Bool.false_eq_true, Bool.not_true, Bool.not_false, hc]) (line_ge (by simp)) trivial ?_).trans ?_
    · intro d hd
      have : ∃ i : Nat, i < n ∧ d = .int (i : Nat) := by
        simp only [id, List.mem_cons, List.not_mem_nil, or_false] at hd
        rcases hd with rfl | rfl | rfl | rfl
        · exact ⟨_, hs.1, rfl⟩
        · exact ⟨_, hs.2, rfl⟩
        · exact ⟨_, ht.1, rfl⟩
        · exact ⟨_, ht.2, rfl⟩
      obtain ⟨i, hi, rfl⟩ := this
      refine ⟨[some (.fz (plD ps)), some (.fz (tieD s)), some (.fz (tieD t)), none, none, none, none, some (.fz (.int (i : Nat)))], .fz (pt (at_ ps i)), ?_, ?_, ?_, ?_⟩
      · simp only [e_ev_var, e_ev_cI, e_ev_cS, e_ev_cN, e_ev_cB, e_ev_neg, e_ev_tup, e_ev_lst, e_ev_bin, e_ev_cmp, e_ev_chn, e_ev_and, e_ev_or, e_ev_not, e_ev_ite, e_ev_sub, e_ev_slc, e_ev_rev, e_ev_call, e_ev_bi, e_ev_isi, e_ev_index, e_ev_pop, e_ev_popAt, e_evs_nil, e_evs_cons, e_evAnd_one, e_evAnd_more, e_evOr_one, e_evOr_more, e_evO_no, e_evO_yes, e_evI_seq, e_evI_rng1, e_evI_rng2, e_evI_enm, e_evI_zp, e_xS_asg, e_xS_set, e_xS_par, e_xS_par3, e_xS_exp, e_xS_app, e_xS_ext, e_xS_setIx, e_xS_ret, e_xS_ife, e_xS_pas, e_xS_brk, e_xS_cnt, e_xS_nev, e_xsl_nil, e_xsl_cons, q_bind, q_toS, q_seq1, q_seq2, q_seq3, q_seq4, q_end1, q_end2, q_tst, q_pick, q_ret1, q_ret2, q_ret3, q_dv1, q_dv2, q_es1, q_es2, q_ea0, q_ea1, q_ea2, q_ea3, q_ec1, line0, line1, line2, line3, line4, line5, line6, line7, line8, q_sk1, q_sk2, q_sk3, q_noX, q_hold1, q_hold2, q_frz1, id, q_goS, q_sv1, q_sv2, q_sv3, q_ub1, q_ub2, q_pv, parS, parS3, Nat.reduceLT, Nat.reduceLeDiff, q_andK, q_orK, q_chnK, q_ite1, q_ite2, q_ite3, q_ite4, q_ite5, decide_eq_true_eq, Bool.not_eq_true', decide_eq_false_iff_not, q_add, q_sub, q_lt, q_le, q_gt, q_ge, q_eqI, q_neI, q_len1, q_len2, q_int1, q_int2, q_min, q_max, q_tup1, q_tup2, q_lst1, q_lst2, q_subL, q_subT, q_slL, q_slT, argE, List.getElem?_cons_zero, List.getElem?_cons_succ, List.getElem?_nil, List.map_cons, List.map_nil, List.replicate, List.nil_append, List.cons_append, List.append_nil, Option.map_some, Option.map_none, if_true, if_false, reduceIte, List.length_cons, List.length_nil, Nat.reduceAdd, Nat.reduceSub, List.mapM_cons, List.mapM_nil, Option.bind_eq_bind, Option.bind_some, Option.pure_def, atI_lit, List.set_cons_zero, List.set_cons_succ, q_as1, q_as2, q_as3, q_as4, q_as5, q_wp0, q_wp1, q_kp0, q_kp1, q_ed0, q_ed1, Bool.false_eq_true, Bool.not_true, Bool.not_false]
      · simp only [e_ev_var, e_ev_cI, e_ev_cS, e_ev_cN, e_ev_cB, e_ev_neg, e_ev_tup, e_ev_lst, e_ev_bin, e_ev_cmp, e_ev_chn, e_ev_and, e_ev_or, e_ev_not, e_ev_ite, e_ev_sub, e_ev_slc, e_ev_rev, e_ev_call, e_ev_bi, e_ev_isi, e_ev_index, e_ev_pop, e_ev_popAt, e_evs_nil, e_evs_cons, e_evAnd_one, e_evAnd_more, e_evOr_one, e_evOr_more, e_evO_no, e_evO_yes, e_evI_seq, e_evI_rng1, e_evI_rng2, e_evI_enm, e_evI_zp, e_xS_asg, e_xS_set, e_xS_par, e_xS_par3, e_xS_exp, e_xS_app, e_xS_ext, e_xS_setIx, e_xS_ret, e_xS_ife, e_xS_pas, e_xS_brk, e_xS_cnt, e_xS_nev, e_xsl_nil, e_xsl_cons, q_bind, q_toS, q_seq1, q_seq2, q_seq3, q_seq4, q_end1, q_end2, q_tst, q_pick, q_ret1, q_ret2, q_ret3, q_dv1, q_dv2, q_es1, q_es2, q_ea0, q_ea1, q_ea2, q_ea3, q_ec1, line0, line1, line2, line3, line4, line5, line6, line7, line8, q_sk1, q_sk2, q_sk3, q_noX, q_hold1, q_hold2, q_frz1, id, q_goS, q_sv1, q_sv2, q_sv3, q_ub1, q_ub2, q_pv, parS, parS3, Nat.reduceLT, Nat.reduceLeDiff, q_andK, q_orK, q_chnK, q_ite1, q_ite2, q_ite3, q_ite4, q_ite5, decide_eq_true_eq, Bool.not_eq_true', decide_eq_false_iff_not, q_add, q_sub, q_lt, q_le, q_gt, q_ge, q_eqI, q_neI, q_len1, q_len2, q_int1, q_int2, q_min, q_max, q_tup1, q_tup2, q_lst1, q_lst2, q_subL, q_subT, q_slL, q_slT, argE, List.getElem?_cons_zero, List.getElem?_cons_succ, List.getElem?_nil, List.map_cons, List.map_nil, List.replicate, List.nil_append, List.cons_append, List.append_nil, Option.map_some, Option.map_none, if_true, if_false, reduceIte, List.length_cons, List.length_nil, Nat.reduceAdd, Nat.reduceSub, List.mapM_cons, List.mapM_nil, Option.bind_eq_bind, Option.bind_some, Option.pure_def, atI_lit, List.set_cons_zero, List.set_cons_succ, q_as1, q_as2, q_as3, q_as4, q_as5, q_wp0, q_wp1, q_kp0, q_kp1, q_ed0, q_ed1, Bool.false_eq_true, Bool.not_true, Bool.not_false, hx i hi]
      · simp only [e_ev_var, e_ev_cI, e_ev_cS, e_ev_cN, e_ev_cB, e_ev_neg, e_ev_tup, e_ev_lst, e_ev_bin, e_ev_cmp, e_ev_chn, e_ev_and, e_ev_or, e_ev_not, e_ev_ite, e_ev_sub, e_ev_slc, e_ev_rev, e_ev_call, e_ev_bi, e_ev_isi, e_ev_index, e_ev_pop, e_ev_popAt, e_evs_nil, e_evs_cons, e_evAnd_one, e_evAnd_more, e_evOr_one, e_evOr_more, e_evO_no, e_evO_yes, e_evI_seq, e_evI_rng1, e_evI_rng2, e_evI_enm, e_evI_zp, e_xS_asg, e_xS_set, e_xS_par, e_xS_par3, e_xS_exp, e_xS_app, e_xS_ext, e_xS_setIx, e_xS_ret, e_xS_ife, e_xS_pas, e_xS_brk, e_xS_cnt, e_xS_nev, e_xsl_nil, e_xsl_cons, q_bind, q_toS, q_seq1, q_seq2, q_seq3, q_seq4, q_end1, q_end2, q_tst, q_pick, q_ret1, q_ret2, q_ret3, q_dv1, q_dv2, q_es1, q_es2, q_ea0, q_ea1, q_ea2, q_ea3, q_ec1, line0, line1, line2, line3, line4, line5, line6, line7, line8, q_sk1, q_sk2, q_sk3, q_noX, q_hold1, q_hold2, q_frz1, id, q_goS, q_sv1, q_sv2, q_sv3, q_ub1, q_ub2, q_pv, parS, parS3, Nat.reduceLT, Nat.reduceLeDiff, q_andK, q_orK, q_chnK, q_ite1, q_ite2, q_ite3, q_ite4, q_ite5, decide_eq_true_eq, Bool.not_eq_true', decide_eq_false_iff_not, q_add, q_sub, q_lt, q_le, q_gt, q_ge, q_eqI, q_neI, q_len1, q_len2, q_int1, q_int2, q_min, q_max, q_tup1, q_tup2, q_lst1, q_lst2, q_subL, q_subT, q_slL, q_slT, argE, List.getElem?_cons_zero, List.getElem?_cons_succ, List.getElem?_nil, List.map_cons, List.map_nil, List.replicate, List.nil_append, List.cons_append, List.append_nil, Option.map_some, Option.map_none, if_true, if_false, reduceIte, List.length_cons, List.length_nil, Nat.reduceAdd, Nat.reduceSub, List.mapM_cons, List.mapM_nil, Option.bind_eq_bind, Option.bind_some, Option.pure_def, atI_lit, List.set_cons_zero, List.set_cons_succ, q_as1, q_as2, q_as3, q_as4, q_as5, q_wp0, q_wp1, q_kp0, q_kp1, q_ed0, q_ed1, Bool.false_eq_true, Bool.not_true, Bool.not_false, hx i hi]
      · simp only [e_ev_var, e_ev_cI, e_ev_cS, e_ev_cN, e_ev_cB, e_ev_neg, e_ev_tup, e_ev_lst, e_ev_bin, e_ev_cmp, e_ev_chn, e_ev_and, e_ev_or, e_ev_not, e_ev_ite, e_ev_sub, e_ev_slc, e_ev_rev, e_ev_call, e_ev_bi, e_ev_isi, e_ev_index, e_ev_pop, e_ev_popAt, e_evs_nil, e_evs_cons, e_evAnd_one, e_evAnd_more, e_evOr_one, e_evOr_more, e_evO_no, e_evO_yes, e_evI_seq, e_evI_rng1, e_evI_rng2, e_evI_enm, e_evI_zp, e_xS_asg, e_xS_set, e_xS_par, e_xS_par3, e_xS_exp, e_xS_app, e_xS_ext, e_xS_setIx, e_xS_ret, e_xS_ife, e_xS_pas, e_xS_brk, e_xS_cnt, e_xS_nev, e_xsl_nil, e_xsl_cons, q_bind, q_toS, q_seq1, q_seq2, q_seq3, q_seq4, q_end1, q_end2, q_tst, q_pick, q_ret1, q_ret2, q_ret3, q_dv1, q_dv2, q_es1, q_es2, q_ea0, q_ea1, q_ea2, q_ea3, q_ec1, line0, line1, line2, line3, line4, line5, line6, line7, line8, q_sk1, q_sk2, q_sk3, q_noX, q_hold1, q_hold2, q_frz1, id, q_goS, q_sv1, q_sv2, q_sv3, q_ub1, q_ub2, q_pv, parS, parS3, Nat.reduceLT, Nat.reduceLeDiff, q_andK, q_orK, q_chnK, q_ite1, q_ite2, q_ite3, q_ite4, q_ite5, decide_eq_true_eq, Bool.not_eq_true', decide_eq_false_iff_not, q_add, q_sub, q_lt, q_le, q_gt, q_ge, q_eqI, q_neI, q_len1, q_len2, q_int1, q_int2, q_min, q_max, q_tup1, q_tup2, q_lst1, q_lst2, q_subL, q_subT, q_slL, q_slT, argE, List.getElem?_cons_zero, List.getElem?_cons_succ, List.getElem?_nil, List.map_cons, List.map_nil, List.replicate, List.nil_append, List.cons_append, List.append_nil, Option.map_some, Option.map_none, if_true, if_false, reduceIte, List.length_cons, List.length_nil, Nat.reduceAdd, Nat.reduceSub, List.mapM_cons, List.mapM_nil, Option.bind_eq_bind, Option.bind_some, Option.pure_def, atI_lit, List.set_cons_zero, List.set_cons_succ, q_as1, q_as2, q_as3, q_as4, q_as5, q_wp0, q_wp1, q_kp0, q_kp1, q_ed0, q_ed1, Bool.false_eq_true, Bool.not_true, Bool.not_false]
    · simp only [List.map_cons, List.map_nil, hx _ hs.1, hx _ hs.2, hx _ ht.1, hx _ ht.2, id, e_ev_var, e_ev_cI, e_ev_cS, e_ev_cN, e_ev_cB, e_ev_neg, e_ev_tup, e_ev_lst, e_ev_bin, e_ev_cmp, e_ev_chn, e_ev_and, e_ev_or, e_ev_not, e_ev_ite, e_ev_sub, e_ev_slc, e_ev_rev, e_ev_call, e_ev_bi, e_ev_isi, e_ev_index, e_ev_pop, e_ev_popAt, e_evs_nil, e_evs_cons, e_evAnd_one, e_evAnd_more, e_evOr_one, e_evOr_more, e_evO_no, e_evO_yes, e_evI_seq, e_evI_rng1, e_evI_rng2, e_evI_enm, e_evI_zp, e_xS_asg, e_xS_set, e_xS_par, e_xS_par3, e_xS_exp, e_xS_app, e_xS_ext, e_xS_setIx, e_xS_ret, e_xS_ife, e_xS_pas, e_xS_brk, e_xS_cnt, e_xS_nev, e_xsl_nil, e_xsl_cons, q_bind, q_toS, q_seq1, q_seq2, q_seq3, q_seq4, q_end1, q_end2, q_tst, q_pick, q_ret1, q_ret2, q_ret3, q_dv1, q_dv2, q_es1, q_es2, q_ea0, q_ea1, q_ea2, q_ea3, q_ec1, line0, line1, line2, line3, line4, line5, line6, line7, line8, q_sk1, q_sk2, q_sk3, q_noX, q_hold1, q_hold2, q_frz1, id, q_goS, q_sv1, q_sv2, q_sv3, q_ub1, q_ub2, q_pv, parS, parS3, Nat.reduceLT, Nat.reduceLeDiff, q_andK, q_orK, q_chnK, q_ite1, q_ite2, q_ite3, q_ite4, q_ite5, decide_eq_true_eq, Bool.not_eq_true', decide_eq_false_iff_not, q_add, q_sub, q_lt, q_le, q_gt, q_ge, q_eqI, q_neI, q_len1, q_len2, q_int1, q_int2, q_min, q_max, q_tup1, q_tup2, q_lst1, q_lst2, q_subL, q_subT, q_slL, q_slT, argE, List.getElem?_cons_zero, List.getElem?_cons_succ, List.getElem?_nil, List.map_cons, List.map_nil, List.replicate, List.nil_append, List.cons_append, List.append_nil, Option.map_some, Option.map_none, if_true, if_false, reduceIte, List.length_cons, List.length_nil, Nat.reduceAdd, Nat.reduceSub, List.mapM_cons, List.mapM_nil, Option.bind_eq_bind, Option.bind_some, Option.pure_def, atI_lit, List.set_cons_zero, List.set_cons_succ, q_as1, q_as2, q_as3, q_as4, q_as5, q_wp0, q_wp1, q_kp0, q_kp1, q_ed0, q_ed1, Bool.false_eq_true, Bool.not_true, Bool.not_false]
  have b1 := fun p q r hp hq hr => m_is_between k w p q r hp hq hr
  have t1 := fun p q r hp hq hr => m_turn (k + 1) w p q r hp hq hr
  have g : ∀ p q r p' q' r' : Pt, SmP p → SmP q → SmP r → SmP p' → SmP q' → SmP r' → (turnZ p q r).natAbs.log2 + (turnZ p' q' r').natAbs.log2 < 1000000 := fun p q r p' q' r' h1 h2 h3 h4 h5 h6 =>
    mul_ok (turn_bd h1 h2 h3) (turn_bd h4 h5 h6)
  simp only [b_do_meet, e_ev_var, e_ev_cI, e_ev_cS, e_ev_cN, e_ev_cB, e_ev_neg, e_ev_tup, e_ev_lst, e_ev_bin, e_ev_cmp, e_ev_chn, e_ev_and, e_ev_or, e_ev_not, e_ev_ite, e_ev_sub, e_ev_slc, e_ev_rev, e_ev_call, e_ev_bi, e_ev_isi, e_ev_index, e_ev_pop, e_ev_popAt, e_evs_nil, e_evs_cons, e_evAnd_one, e_evAnd_more, e_evOr_one, e_evOr_more, e_evO_no, e_evO_yes, e_evI_seq, e_evI_rng1, e_evI_rng2, e_evI_enm, e_evI_zp, e_xS_asg, e_xS_set, e_xS_par, e_xS_par3, e_xS_exp, e_xS_app, e_xS_ext, e_xS_setIx, e_xS_ret, e_xS_ife, e_xS_pas, e_xS_brk, e_xS_cnt, e_xS_nev, e_xsl_nil, e_xsl_cons, q_bind, q_toS, q_seq1, q_seq2, q_seq3, q_seq4, q_end1, q_end2, q_tst, q_pick, q_ret1, q_ret2, q_ret3, q_dv1, q_dv2, q_es1, q_es2, q_ea0, q_ea1, q_ea2, q_ea3, q_ec1, line0, line1, line2, line3, line4, line5, line6, line7, line8, q_sk1, q_sk2, q_sk3, q_noX, q_hold1, q_hold2, q_frz1, id, q_goS, q_sv1, q_sv2, q_sv3, q_ub1, q_ub2, q_pv, parS, parS3, Nat.reduceLT, Nat.reduceLeDiff, q_andK, q_orK, q_chnK, q_ite1, q_ite2, q_ite3, q_ite4, q_ite5, decide_eq_true_eq, Bool.not_eq_true', decide_eq_false_iff_not, q_add, q_sub, q_lt, q_le, q_gt, q_ge, q_eqI, q_neI, q_len1, q_len2, q_int1, q_int2, q_min, q_max, q_tup1, q_tup2, q_lst1, q_lst2, q_subL, q_subT, q_slL, q_slT, argE, List.getElem?_cons_zero, List.getElem?_cons_succ, List.getElem?_nil, List.map_cons, List.map_nil, List.replicate, List.nil_append, List.cons_append, List.append_nil, Option.map_some, Option.map_none, if_true, if_false, reduceIte, List.length_cons, List.length_nil, Nat.reduceAdd, Nat.reduceSub, List.mapM_cons, List.mapM_nil, Option.bind_eq_bind, Option.bind_some, Option.pure_def, atI_lit, List.set_cons_zero, List.set_cons_succ, q_as1, q_as2, q_as3, q_as4, q_as5, q_wp0, q_wp1, q_kp0, q_kp1, q_ed0, q_ed1, Bool.false_eq_true, Bool.not_true, Bool.not_false, hl, b1 _ _ _ o1 o2 o3, b1 _ _ _ o1 o2 o4, b1 _ _ _ o3 o4 o1, b1 _ _ _ o3 o4 o2, t1 _ _ _ o1 o2 o3, t1 _ _ _ o1 o2 o4, t1 _ _ _ o3 o4 o1, t1 _ _ _ o3 o4 o2, q_mul (g _ _ _ _ _ _ o1 o2 o3 o1 o2 o4), q_mul (g _ _ _ _ _ _ o3 o4 o1 o3 o4 o2)]
  unfold meetZ
  cases betwZ (at_ ps s.1) (at_ ps s.2) (at_ ps t.1) <;> cases betwZ (at_ ps s.1) (at_ ps s.2) (at_ ps t.2) <;> cases betwZ (at_ ps t.1) (at_ ps t.2) (at_ ps s.1) <;> cases betwZ (at_ ps t.1) (at_ ps t.2) (at_ ps s.2) <;>
    simp only [Bool.false_eq_true, if_true, if_false, Bool.true_or, Bool.or_true, Bool.false_or]
  by_cases h : turnZ (at_ ps s.1) (at_ ps s.2) (at_ ps t.1) * turnZ (at_ ps s.1) (at_ ps s.2) (at_ ps t.2) < 0 <;> simp only [h, if_true, if_false, decide_true, decide_false, Bool.true_and, Bool.false_and]
def sd (p q r s : Pt) : Bool := (liesZ p q r || liesZ p q s || liesZ r s p || liesZ r s q) || (decide (sideZ p q r * sideZ p q s = -1) && decide (sideZ r s p * sideZ r s q = -1))
theorem side_bd (p q r : Pt) : -1 ≤ sideZ p q r ∧ sideZ p q r ≤ 1 := by unfold sideZ; constructor <;> split <;> split <;> omega
theorem m_law_meet (k : Nat) (w : Wd) (p q r s : Pt) (hp : SmP p) (hq : SmP q) (hr : SmP r) (hs : SmP s) :
    fnAt tab (k + 3) 12 [.fz (pt p), .fz (pt q), .fz (pt r), .fz (pt s)] w = .ok (.fz (.bool (sd p q r s))) w := by
  rw [fnAt_txt t__law_meet (by decide) (k + 2) _ w rfl]
  have b1 := fun p q r hp hq hr => m_lies k w p q r hp hq hr
  have t1 := fun p q r hp hq hr => m_side (k + 1) w p q r hp hq hr
  have g : ∀ p q r p' q' r' : Pt, (sideZ p q r).natAbs.log2 + (sideZ p' q' r').natAbs.log2 < 1000000 := fun p q r p' q' r' =>
    mul_ok (by have := side_bd p q r; omega) (by have := side_bd p' q' r'; omega)
  simp only [b__law_meet, e_ev_var, e_ev_cI, e_ev_cS, e_ev_cN, e_ev_cB, e_ev_neg, e_ev_tup, e_ev_lst, e_ev_bin, e_ev_cmp, e_ev_chn, e_ev_and, e_ev_or, e_ev_not, e_ev_ite, e_ev_sub, e_ev_slc, e_ev_rev, e_ev_call, e_ev_bi, e_ev_isi, e_ev_index, e_ev_pop, e_ev_popAt, e_evs_nil, e_evs_cons, e_evAnd_one, e_evAnd_more, e_evOr_one, e_evOr_more, e_evO_no, e_evO_yes, e_evI_seq, e_evI_rng1, e_evI_rng2, e_evI_enm, e_evI_zp, e_xS_asg, e_xS_set, e_xS_par, e_xS_par3, e_xS_exp, e_xS_app, e_xS_ext, e_xS_setIx, e_xS_ret, e_xS_ife, e_xS_pas, e_xS_brk, e_xS_cnt, e_xS_nev, e_xsl_nil, e_xsl_cons, q_bind, q_toS, q_seq1, q_seq2, q_seq3, q_seq4, q_end1, q_end2, q_tst, q_pick, q_ret1, q_ret2, q_ret3, q_dv1, q_dv2, q_es1, q_es2, q_ea0, q_ea1, q_ea2, q_ea3, q_ec1, line0, line1, line2, line3, line4, line5, line6, line7, line8, q_sk1, q_sk2, q_sk3, q_noX, q_hold1, q_hold2, q_frz1, id, q_goS, q_sv1, q_sv2, q_sv3, q_ub1, q_ub2, q_pv, parS, parS3, Nat.reduceLT, Nat.reduceLeDiff, q_andK, q_orK, q_chnK, q_ite1, q_ite2, q_ite3, q_ite4, q_ite5, decide_eq_true_eq, Bool.not_eq_true', decide_eq_false_iff_not, q_add, q_sub, q_lt, q_le, q_gt, q_ge, q_eqI, q_neI, q_len1, q_len2, q_int1, q_int2, q_min, q_max, q_tup1, q_tup2, q_lst1, q_lst2, q_subL, q_subT, q_slL, q_slT, argE, List.getElem?_cons_zero, List.getElem?_cons_succ, List.getElem?_nil, List.map_cons, List.map_nil, List.replicate, List.nil_append, List.cons_append, List.append_nil, Option.map_some, Option.map_none, if_true, if_false, reduceIte, List.length_cons, List.length_nil, Nat.reduceAdd, Nat.reduceSub, List.mapM_cons, List.mapM_nil, Option.bind_eq_bind, Option.bind_some, Option.pure_def, atI_lit, List.set_cons_zero, List.set_cons_succ, q_as1, q_as2, q_as3, q_as4, q_as5, q_wp0, q_wp1, q_kp0, q_kp1, q_ed0, q_ed1, Bool.false_eq_true, Bool.not_true, Bool.not_false, b1 _ _ _ hp hq hr, b1 _ _ _ hp hq hs, b1 _ _ _ hr hs hp, b1 _ _ _ hr hs hq, t1 _ _ _ hp hq hr, t1 _ _ _ hp hq hs, t1 _ _ _ hr hs hp, t1 _ _ _ hr hs hq, q_mul (g _ _ _ _ _ _)]
  unfold sd
  cases liesZ p q r <;> cases liesZ p q s <;> cases liesZ r s p <;> cases liesZ r s q <;>
    simp only [Bool.false_eq_true, if_true, if_false, Bool.true_or, Bool.or_true, Bool.false_or]
  by_cases h : sideZ p q r * sideZ p q s = -1 <;> simp only [h, if_true, if_false, decide_true, decide_false, Bool.true_and, Bool.false_and]
end K37

set_option Elab.async false
set_option linter.all false
set_option maxRecDepth 100000
set_option maxHeartbeats 8000000
set_option autoImplicit false
namespace K37
open PySem PySem.Spec L2 DL
/-! ### the plain law: both looks at three and four places are one -/
theorem neg_iff {a b : Int} : a * b < 0 ↔ (a < 0 ∧ 0 < b) ∨ (0 < a ∧ b < 0) := by
  constructor
  · intro h
    rcases Int.lt_trichotomy a 0 with ha | ha | ha
    · rcases Int.lt_trichotomy b 0 with hb | hb | hb
      · have := Int.mul_pos_of_neg_of_neg ha hb; omega
      · subst hb; simp at h
      · exact .inl ⟨ha, hb⟩
    · subst ha; simp at h
    · rcases Int.lt_trichotomy b 0 with hb | hb | hb
      · exact .inr ⟨ha, hb⟩
      · subst hb; simp at h
      · have := Int.mul_pos ha hb; omega
  · rintro (⟨h1, h2⟩ | ⟨h1, h2⟩)
    · exact Int.mul_neg_of_neg_of_pos h1 h2
    · exact Int.mul_neg_of_pos_of_neg h1 h2
theorem nonpos_iff {a b : Int} : a * b ≤ 0 ↔ (a ≤ 0 ∧ 0 ≤ b) ∨ (0 ≤ a ∧ b ≤ 0) := by
  by_cases h : a * b < 0
  · have := neg_iff.mp h
    constructor
    · intro _; omega
    · intro _; omega
  · constructor
    · intro h2
      have h0 : a * b = 0 := by omega
      rcases Int.mul_eq_zero.mp h0 with z | z <;> omega
    · rintro (⟨h1, h2⟩ | ⟨h1, h2⟩)
      · have := Int.mul_nonneg (show 0 ≤ -a by omega) h2
        rw [Int.neg_mul] at this
        omega
      · have := Int.mul_nonneg h1 (show 0 ≤ -b by omega)
        rw [Int.mul_neg] at this
        omega
theorem btw_iff (p q r : Int) : ((if q < p then q else p) ≤ r ∧ r ≤ (if q > p then q else p)) ↔ (r - p) * (r - q) ≤ 0 := by
  rw [nonpos_iff]
  split <;> split <;> omega
theorem sq_nonneg (z : Int) : 0 ≤ z * z := by
  rcases Int.le_total 0 z with h | h
  · exact Int.mul_nonneg h h
  · have := Int.mul_nonneg (show 0 ≤ -z by omega) (show 0 ≤ -z by omega)
    rwa [Int.neg_mul_neg] at this
theorem side0 (p q r : Pt) : sideZ p q r = 0 ↔ turnZ p q r = 0 := by
  unfold sideZ
  constructor
  · intro h
    by_cases h1 : 0 < turnZ p q r <;> by_cases h2 : turnZ p q r < 0 <;> simp only [h1, h2, if_true, if_false] at h <;> omega
  · intro h
    rw [h]
    rfl
theorem both_signs {u1 v1 u2 v2 : Int} (h : u1 * v2 = u2 * v1) (hs : u1 * v1 + u2 * v2 ≤ 0) : u1 * v1 ≤ 0 ∧ u2 * v2 ≤ 0 := by
  have e : (u1 * v1) * (u2 * v2) = (u1 * v2) * (u1 * v2) := by
    calc (u1 * v1) * (u2 * v2) = (u1 * v2) * (u2 * v1) := by ac_rfl
      _ = (u1 * v2) * (u1 * v2) := by rw [← h]
  have n := sq_nonneg (u1 * v2)
  rw [← e] at n
  constructor
  · by_cases c : u1 * v1 ≤ 0
    · exact c
    · have := Int.mul_neg_of_pos_of_neg (show 0 < u1 * v1 by omega) (show u2 * v2 < 0 by omega)
      omega
  · by_cases c : u2 * v2 ≤ 0
    · exact c
    · have := Int.mul_neg_of_neg_of_pos (show u1 * v1 < 0 by omega) (show 0 < u2 * v2 by omega)
      omega
theorem lies_eq (p q r : Pt) : betwZ p q r = liesZ p q r := by
  unfold betwZ liesZ
  rw [decide_eq_decide, side0]
  constructor
  · rintro ⟨h, h1, h2⟩
    have a := (btw_iff p.1 q.1 r.1).mp h1
    have b := (btw_iff p.2 q.2 r.2).mp h2
    exact ⟨h, by omega⟩
  · rintro ⟨h, hs⟩
    have e : (r.1 - p.1) * (r.2 - q.2) = (r.2 - p.2) * (r.1 - q.1) := by
      unfold turnZ at h
      grind
    obtain ⟨a, b⟩ := both_signs e hs
    exact ⟨h, (btw_iff p.1 q.1 r.1).mpr a, (btw_iff p.2 q.2 r.2).mpr b⟩
theorem sides (p q r p' q' r' : Pt) : decide (turnZ p q r * turnZ p' q' r' < 0) = decide (sideZ p q r * sideZ p' q' r' = -1) := by
  rw [decide_eq_decide, neg_iff]
  unfold sideZ
  by_cases h1 : 0 < turnZ p q r <;> by_cases h2 : turnZ p q r < 0 <;> by_cases h3 : 0 < turnZ p' q' r' <;> by_cases h4 : turnZ p' q' r' < 0 <;> simp only [h1, h2, h3, h4, if_true, if_false, true_and, false_and, and_true, and_false, or_false, false_or, or_true] <;> first | omega | decide
theorem meet_eq (p q r s : Pt) : meetZ p q r s = sd p q r s := by
  unfold meetZ sd
  rw [lies_eq, lies_eq, lies_eq, lies_eq, sides, sides]
end K37

set_option Elab.async false
set_option linter.all false
set_option maxRecDepth 100000
set_option maxHeartbeats 8000000
set_option exponentiation.threshold 1000
set_option autoImplicit false
namespace K37
open PySem PySem.Spec L2 DL
/-! ### the crossing ties, by both -/
def crossP (ps : List Pt) (s t : Tie) : Bool := decide (s.1 ≠ t.1 ∧ s.1 ≠ t.2) && (decide (s.2 ≠ t.1 ∧ s.2 ≠ t.2) && meetZ (at_ ps s.1) (at_ ps s.2) (at_ ps t.1) (at_ ps t.2))
def pairD (s t : Tie) : PyData := .tuple [tieD s, tieD t]
def tieAt (ts : List Tie) (i : Nat) : Tie := ts.getD i (0, 0)
def innP (ps : List Pt) (ts : List Tie) (i : Nat) : List PyData := ((ts.drop (i + 1)).filter (crossP ps (tieAt ts i))).map (pairD (tieAt ts i))
def upP (ps : List Pt) (ts : List Tie) (i : Nat) : List PyData := (List.range i).flatMap (innP ps ts)
def meetL (ps : List Pt) (ts : List Tie) : List PyData := upP ps ts ts.length
theorem upP_succ (ps : List Pt) (ts : List Tie) (i : Nat) : upP ps ts (i + 1) = upP ps ts i ++ innP ps ts i := by
  unfold upP
  rw [List.range_succ, List.flatMap_append]
  simp
theorem innP_len (ps : List Pt) (ts : List Tie) (i : Nat) : (innP ps ts i).length ≤ ts.length := by
  unfold innP
  rw [List.length_map]
  exact Nat.le_trans (List.length_filter_le _ _) (by simp)
theorem upP_len (ps : List Pt) (ts : List Tie) : ∀ i, (upP ps ts i).length ≤ i * ts.length
  | 0 => by simp [upP]
  | i + 1 => by
    rw [upP_succ, List.length_append, Nat.succ_mul]
    have := upP_len ps ts i
    have := innP_len ps ts i
    omega
theorem okEq_tie (i : Int) (t : Tie) : okEq (.int i) (tieD t) = true := rfl
theorem notin_tie (a : Nat) (t : Tie) : cmpD .notin (.int (a : Nat)) (tieD t) = some (decide (a ≠ t.1 ∧ a ≠ t.2)) := by
  have e := q_ninT (ds := [.int (t.1 : Nat), .int (t.2 : Nat)]) (x := .int (a : Nat)) (okEq_tie _ t)
  rw [show tieD t = .tuple [.int (t.1 : Nat), .int (t.2 : Nat)] from rfl, e]
  congr 1
  simp only [List.any_cons, List.any_nil, PyData.eqv, Bool.or_false]
  rw [← Bool.decide_coe (!(_ || _)), decide_eq_decide]
  simp
  omega
theorem ties_at (ts : List Tie) (i : Nat) (h : i < ts.length) : (ts.map tieD)[i]? = some (tieD (tieAt ts i)) := by
  simp only [List.getElem?_map, List.getElem?_eq_getElem h, Option.map_some, tieAt, List.getD_eq_getElem?_getD, Option.getD_some]
theorem Ok.tieAt {n : Nat} {ts : List Tie} {ps : List Pt} (o : Ok n ts ps) {i : Nat} (h : i < ts.length) : (tieAt ts i).1 < n ∧ (tieAt ts i).2 < n := by
  apply o.tie
  simp only [K37.tieAt, List.getD_eq_getElem?_getD, List.getElem?_eq_getElem h, Option.getD_some]
  exact List.getElem_mem h
theorem mem_drop {α : Type} {l : List α} {n : Nat} {x : α} (h : x ∈ l.drop n) : x ∈ l := List.mem_of_mem_drop h
theorem m_meetings (k : Nat) (w : Wd) {n : Nat} {ts : List Tie} {ps : List Pt} (o : Ok n ts ps) :
    fnAt tab (k + 4) 4 [.fz (webD n ts), .fz (plD ps)] w = .ok (.fz (.tuple (meetL ps ts))) w := by
  rw [fnAt_txt t_meetings (by decide) (k + 3) _ w rfl]
  have few := o.few
  have big : ∀ i, i ≤ ts.length → (upP ps ts i).length ≤ 10000 := fun i hi => by
    have h1 := upP_len ps ts i
    have h2 : i * ts.length ≤ 100 * 100 := Nat.mul_le_mul (by omega) few
    omega
  have outer : ∀ fn, fn = fnAt tab (k + 3) → ∃ e2 w2, forGo (.tp (.cons (.nm 3) (.cons (.nm 4) .nil))) (xsl fn (.cons (.for_ (.nm 5) (.seq (.slc (.sub (.var 0) (.cI 1)) (.yes (.bin .add (.var 3) (.cI 1))) .no)) (.cons (.ife (.and (.cons (.cmp .notin (.sub (.var 4) (.cI 0)) (.var 5)) (.cons (.cmp .notin (.sub (.var 4) (.cI 1)) (.var 5)) (.cons (.call 3 (.cons (.var 1) (.cons (.var 4) (.cons (.var 5) .nil)))) .nil)))) (.cons (.app 2 (.tup (.cons (.var 4) (.cons (.var 5) .nil)))) .nil) .nil) .nil)) .nil))
      (enmL (ts.map tieD)) [some (.fz (webD n ts)), some (.fz (plD ps)), some (.lst []), none, none, none] w = .nx e2 w2 ∧
      (w2 = w ∧ ∃ x3 x4 x5 : Option EV, e2 = [some (.fz (webD n ts)), some (.fz (plD ps)), some (.lst (upP ps ts (enmL (ts.map tieD)).length)), x3, x4, x5]) := by
    rintro fn rfl
    refine for_ix (J := fun i env w' => w' = w ∧ ∃ x3 x4 x5 : Option EV, env = [some (.fz (webD n ts)), some (.fz (plD ps)), some (.lst (upP ps ts i)), x3, x4, x5]) ⟨rfl, none, none, none, rfl⟩ ?_
    rintro i d hd env w' ⟨rfl, x3, x4, x5, rfl⟩
    rw [enmL_at] at hd
    have hi : i < ts.length := by
      by_cases q : i < ts.length
      · exact q
      · rw [List.getElem?_eq_none (by simp; omega)] at hd; cases hd
    rw [ties_at ts i hi] at hd
    cases hd
    have hti := o.tieAt hi
    refine ⟨[some (.fz (webD n ts)), some (.fz (plD ps)), some (.lst (upP ps ts i)), some (.fz (.int (i : Nat))), some (.fz (tieD (tieAt ts i))), x5], by simp only [e_ev_var, e_ev_cI, e_ev_cS, e_ev_cN, e_ev_cB, e_ev_neg, e_ev_tup, e_ev_lst, e_ev_bin, e_ev_cmp, e_ev_chn, e_ev_and, e_ev_or, e_ev_not, e_ev_ite, e_ev_sub, e_ev_slc, e_ev_rev, e_ev_call, e_ev_bi, e_ev_isi, e_ev_index, e_ev_pop, e_ev_popAt, e_evs_nil, e_evs_cons, e_evAnd_one, e_evAnd_more, e_evOr_one, e_evOr_more, e_evO_no, e_evO_yes, e_evI_seq, e_evI_rng1, e_evI_rng2, e_evI_enm, e_evI_zp, e_xS_asg, e_xS_set, e_xS_par, e_xS_par3, e_xS_exp, e_xS_app, e_xS_ext, e_xS_setIx, e_xS_ret, e_xS_ife, e_xS_pas, e_xS_brk, e_xS_cnt, e_xS_nev, e_xsl_nil, e_xsl_cons, q_bind, q_toS, q_seq1, q_seq2, q_seq3, q_seq4, q_end1, q_end2, q_tst, q_pick, q_ret1, q_ret2, q_ret3, q_dv1, q_dv2, q_es1, q_es2, q_ea0, q_ea1, q_ea2, q_ea3, q_ec1, line0, line1, line2, line3, line4, line5, line6, line7, line8, q_sk1, q_sk2, q_sk3, q_noX, q_hold1, q_hold2, q_frz1, id, q_goS, q_sv1, q_sv2, q_sv3, q_ub1, q_ub2, q_pv, parS, parS3, Nat.reduceLT, Nat.reduceLeDiff, q_andK, q_orK, q_chnK, q_ite1, q_ite2, q_ite3, q_ite4, q_ite5, decide_eq_true_eq, Bool.not_eq_true', decide_eq_false_iff_not, q_add, q_sub, q_lt, q_le, q_gt, q_ge, q_eqI, q_neI, q_len1, q_len2, q_int1, q_int2, q_min, q_max, q_tup1, q_tup2, q_lst1, q_lst2, q_subL, q_subT, q_slL, q_slT, argE, List.getElem?_cons_zero, List.getElem?_cons_succ, List.getElem?_nil, List.map_cons, List.map_nil, List.replicate, List.nil_append, List.cons_append, List.append_nil, Option.map_some, Option.map_none, if_true, if_false, reduceIte, List.length_cons, List.length_nil, Nat.reduceAdd, Nat.reduceSub, List.mapM_cons, List.mapM_nil, Option.bind_eq_bind, Option.bind_some, Option.pure_def, atI_lit, List.set_cons_zero, List.set_cons_succ, q_as1, q_as2, q_as3, q_as4, q_as5, q_wp0, q_wp1, q_kp0, q_kp1, q_ed0, q_ed1, Bool.false_eq_true, Bool.not_true, Bool.not_false], ?_⟩
    have inner := for_filterM (w := w') (g := tieD) (tg := .nm 5) (p := crossP ps (tieAt ts i)) (x := pairD (tieAt ts i)) (M := 20000)
      (b := xsl (fnAt tab (k + 3)) (.cons (.ife (.and (.cons (.cmp .notin (.sub (.var 4) (.cI 0)) (.var 5)) (.cons (.cmp .notin (.sub (.var 4) (.cI 1)) (.var 5)) (.cons (.call 3 (.cons (.var 1) (.cons (.var 4) (.cons (.var 5) .nil)))) .nil)))) (.cons (.app 2 (.tup (.cons (.var 4) (.cons (.var 5) .nil)))) .nil) .nil) .nil))
      (J := fun a env => ∃ x5 : Option EV, env = [some (.fz (webD n ts)), some (.fz (plD ps)), some (.lst a), some (.fz (.int (i : Nat))), some (.fz (tieD (tieAt ts i))), x5])
      (ts.drop (i + 1)) (upP ps ts i) [some (.fz (webD n ts)), some (.fz (plD ps)), some (.lst (upP ps ts i)), some (.fz (.int (i : Nat))), some (.fz (tieD (tieAt ts i))), x5]
      (by have := big i (by omega); simp; omega) ⟨x5, rfl⟩ ?_
    · obtain ⟨e2, h1, x5', h2⟩ := inner
      have hcut : cutD (ts.map tieD) (some (((i : Nat) : Int) + 1)) none = (ts.drop (i + 1)).map tieD := by
        rw [show ((i : Nat) : Int) + 1 = ((i + 1 : Nat) : Int) by omega, cut_from, List.map_drop]
      refine ⟨e2, w', .inl ?_, rfl, some (.fz (.int (i : Nat))), some (.fz (tieD (tieAt ts i))), x5', ?_⟩
      · simp only [e_ev_var, e_ev_cI, e_ev_cS, e_ev_cN, e_ev_cB, e_ev_neg, e_ev_tup, e_ev_lst, e_ev_bin, e_ev_cmp, e_ev_chn, e_ev_and, e_ev_or, e_ev_not, e_ev_ite, e_ev_sub, e_ev_slc, e_ev_rev, e_ev_call, e_ev_bi, e_ev_isi, e_ev_index, e_ev_pop, e_ev_popAt, e_evs_nil, e_evs_cons, e_evAnd_one, e_evAnd_more, e_evOr_one, e_evOr_more, e_evO_no, e_evO_yes, e_evI_seq, e_evI_rng1, e_evI_rng2, e_evI_enm, e_evI_zp, e_xS_asg, e_xS_set, e_xS_par, e_xS_par3, e_xS_exp, e_xS_app, e_xS_ext, e_xS_setIx, e_xS_ret, e_xS_ife, e_xS_pas, e_xS_brk, e_xS_cnt, e_xS_nev, e_xsl_nil, e_xsl_cons, q_bind, q_toS, q_seq1, q_seq2, q_seq3, q_seq4, q_end1, q_end2, q_tst, q_pick, q_ret1, q_ret2, q_ret3, q_dv1, q_dv2, q_es1, q_es2, q_ea0, q_ea1, q_ea2, q_ea3, q_ec1, line0, line1, line2, line3, line4, line5, line6, line7, line8, q_sk1, q_sk2, q_sk3, q_noX, q_hold1, q_hold2, q_frz1, id, q_goS, q_sv1, q_sv2, q_sv3, q_ub1, q_ub2, q_pv, parS, parS3, Nat.reduceLT, Nat.reduceLeDiff, q_andK, q_orK, q_chnK, q_ite1, q_ite2, q_ite3, q_ite4, q_ite5, decide_eq_true_eq, Bool.not_eq_true', decide_eq_false_iff_not, q_add, q_sub, q_lt, q_le, q_gt, q_ge, q_eqI, q_neI, q_len1, q_len2, q_int1, q_int2, q_min, q_max, q_tup1, q_tup2, q_lst1, q_lst2, q_subL, q_subT, q_slL, q_slT, argE, List.getElem?_cons_zero, List.getElem?_cons_succ, List.getElem?_nil, List.map_cons, List.map_nil, List.replicate, List.nil_append, List.cons_append, List.append_nil, Option.map_some, Option.map_none, if_true, if_false, reduceIte, List.length_cons, List.length_nil, Nat.reduceAdd, Nat.reduceSub, List.mapM_cons, List.mapM_nil, Option.bind_eq_bind, Option.bind_some, Option.pure_def, atI_lit, List.set_cons_zero, List.set_cons_succ, q_as1, q_as2, q_as3, q_as4, q_as5, q_wp0, q_wp1, q_kp0, q_kp1, q_ed0, q_ed1, Bool.false_eq_true, Bool.not_true, Bool.not_false, e_xS_for_, web1, tiesD, hcut, h1]
      · rw [h2, upP_succ]
        rfl
    · rintro t ht a env ha ⟨x5, rfl⟩
      have htt := o.tie t (mem_drop ht)
      refine ⟨[some (.fz (webD n ts)), some (.fz (plD ps)), some (.lst a), some (.fz (.int (i : Nat))), some (.fz (tieD (tieAt ts i))), some (.fz (tieD t))], by simp only [e_ev_var, e_ev_cI, e_ev_cS, e_ev_cN, e_ev_cB, e_ev_neg, e_ev_tup, e_ev_lst, e_ev_bin, e_ev_cmp, e_ev_chn, e_ev_and, e_ev_or, e_ev_not, e_ev_ite, e_ev_sub, e_ev_slc, e_ev_rev, e_ev_call, e_ev_bi, e_ev_isi, e_ev_index, e_ev_pop, e_ev_popAt, e_evs_nil, e_evs_cons, e_evAnd_one, e_evAnd_more, e_evOr_one, e_evOr_more, e_evO_no, e_evO_yes, e_evI_seq, e_evI_rng1, e_evI_rng2, e_evI_enm, e_evI_zp, e_xS_asg, e_xS_set, e_xS_par, e_xS_par3, e_xS_exp, e_xS_app, e_xS_ext, e_xS_setIx, e_xS_ret, e_xS_ife, e_xS_pas, e_xS_brk, e_xS_cnt, e_xS_nev, e_xsl_nil, e_xsl_cons, q_bind, q_toS, q_seq1, q_seq2, q_seq3, q_seq4, q_end1, q_end2, q_tst, q_pick, q_ret1, q_ret2, q_ret3, q_dv1, q_dv2, q_es1, q_es2, q_ea0, q_ea1, q_ea2, q_ea3, q_ec1, line0, line1, line2, line3, line4, line5, line6, line7, line8, q_sk1, q_sk2, q_sk3, q_noX, q_hold1, q_hold2, q_frz1, id, q_goS, q_sv1, q_sv2, q_sv3, q_ub1, q_ub2, q_pv, parS, parS3, Nat.reduceLT, Nat.reduceLeDiff, q_andK, q_orK, q_chnK, q_ite1, q_ite2, q_ite3, q_ite4, q_ite5, decide_eq_true_eq, Bool.not_eq_true', decide_eq_false_iff_not, q_add, q_sub, q_lt, q_le, q_gt, q_ge, q_eqI, q_neI, q_len1, q_len2, q_int1, q_int2, q_min, q_max, q_tup1, q_tup2, q_lst1, q_lst2, q_subL, q_subT, q_slL, q_slT, argE, List.getElem?_cons_zero, List.getElem?_cons_succ, List.getElem?_nil, List.map_cons, List.map_nil, List.replicate, List.nil_append, List.cons_append, List.append_nil, Option.map_some, Option.map_none, if_true, if_false, reduceIte, List.length_cons, List.length_nil, Nat.reduceAdd, Nat.reduceSub, List.mapM_cons, List.mapM_nil, Option.bind_eq_bind, Option.bind_some, Option.pure_def, atI_lit, List.set_cons_zero, List.set_cons_succ, q_as1, q_as2, q_as3, q_as4, q_as5, q_wp0, q_wp1, q_kp0, q_kp1, q_ed0, q_ed1, Bool.false_eq_true, Bool.not_true, Bool.not_false], ?_⟩
      have hm := m_do_meet k w' o (tieAt ts i) t hti htt
      refine ⟨[some (.fz (webD n ts)), some (.fz (plD ps)), some (.lst (if crossP ps (tieAt ts i) t = true then a ++ [pairD (tieAt ts i) t] else a)), some (.fz (.int (i : Nat))), some (.fz (tieD (tieAt ts i))), some (.fz (tieD t))], ?_, ?_⟩
      · have hap := q_app1 (n := 2) (w := w') (ds := a) (d := .tuple [tieD (tieAt ts i), tieD t]) (env := [some (.fz (webD n ts)), some (.fz (plD ps)), some (.lst a), some (.fz (.int (i : Nat))), some (.fz (tieD (tieAt ts i))), some (.fz (tieD t))]) rfl (Nat.lt_of_lt_of_le ha (by decide))
        simp only [e_ev_var, e_ev_cI, e_ev_cS, e_ev_cN, e_ev_cB, e_ev_neg, e_ev_tup, e_ev_lst, e_ev_bin, e_ev_cmp, e_ev_chn, e_ev_and, e_ev_or, e_ev_not, e_ev_ite, e_ev_sub, e_ev_slc, e_ev_rev, e_ev_call, e_ev_bi, e_ev_isi, e_ev_index, e_ev_pop, e_ev_popAt, e_evs_nil, e_evs_cons, e_evAnd_one, e_evAnd_more, e_evOr_one, e_evOr_more, e_evO_no, e_evO_yes, e_evI_seq, e_evI_rng1, e_evI_rng2, e_evI_enm, e_evI_zp, e_xS_asg, e_xS_set, e_xS_par, e_xS_par3, e_xS_exp, e_xS_app, e_xS_ext, e_xS_setIx, e_xS_ret, e_xS_ife, e_xS_pas, e_xS_brk, e_xS_cnt, e_xS_nev, e_xsl_nil, e_xsl_cons, q_bind, q_toS, q_seq1, q_seq2, q_seq3, q_seq4, q_end1, q_end2, q_tst, q_pick, q_ret1, q_ret2, q_ret3, q_dv1, q_dv2, q_es1, q_es2, q_ea0, q_ea1, q_ea2, q_ea3, q_ec1, line0, line1, line2, line3, line4, line5, line6, line7, line8, q_sk1, q_sk2, q_sk3, q_noX, q_hold1, q_hold2, q_frz1, id, q_goS, q_sv1, q_sv2, q_sv3, q_ub1, q_ub2, q_pv, parS, parS3, Nat.reduceLT, Nat.reduceLeDiff, q_andK, q_orK, q_chnK, q_ite1, q_ite2, q_ite3, q_ite4, q_ite5, decide_eq_true_eq, Bool.not_eq_true', decide_eq_false_iff_not, q_add, q_sub, q_lt, q_le, q_gt, q_ge, q_eqI, q_neI, q_len1, q_len2, q_int1, q_int2, q_min, q_max, q_tup1, q_tup2, q_lst1, q_lst2, q_subL, q_subT, q_slL, q_slT, argE, List.getElem?_cons_zero, List.getElem?_cons_succ, List.getElem?_nil, List.map_cons, List.map_nil, List.replicate, List.nil_append, List.cons_append, List.append_nil, Option.map_some, Option.map_none, if_true, if_false, reduceIte, List.length_cons, List.length_nil, Nat.reduceAdd, Nat.reduceSub, List.mapM_cons, List.mapM_nil, Option.bind_eq_bind, Option.bind_some, Option.pure_def, atI_lit, List.set_cons_zero, List.set_cons_succ, q_as1, q_as2, q_as3, q_as4, q_as5, q_wp0, q_wp1, q_kp0, q_kp1, q_ed0, q_ed1, Bool.false_eq_true, Bool.not_true, Bool.not_false, tie0, tie1, notin_tie, hm, hap]
        unfold crossP
        by_cases c1 : (tieAt ts i).1 ≠ t.1 ∧ (tieAt ts i).1 ≠ t.2
        · by_cases c2 : (tieAt ts i).2 ≠ t.1 ∧ (tieAt ts i).2 ≠ t.2
          · rw [if_pos c1, if_pos c2, decide_eq_true c1, decide_eq_true c2, Bool.true_and, Bool.true_and]
            split <;> rfl
          · rw [if_pos c1, if_neg c2, decide_eq_true c1, decide_eq_false c2, Bool.true_and, Bool.false_and]
            rfl
        · rw [if_neg c1, decide_eq_false c1, Bool.false_and]
          rfl
      · exact ⟨some (.fz (tieD t)), by split <;> rfl⟩
  obtain ⟨e2, w2, h1, rfl, x3, x4, x5, h2⟩ := outer _ rfl
  rw [show (enmL (ts.map tieD)).length = ts.length by rw [enmL_len, List.length_map]] at h2
  have hr : retV e2 (.fz (.tuple (meetL ps ts))) = some (.fz (.tuple (meetL ps ts))) := rfl
  subst h2
  have hb : dval [some (.fz (webD n ts)), some (.fz (plD ps)), some (.lst (upP ps ts ts.length)), x3, x4, x5] (.bor 2) = some (.list (meetL ps ts)) := rfl
  simp only [b_meetings, e_ev_var, e_ev_cI, e_ev_cS, e_ev_cN, e_ev_cB, e_ev_neg, e_ev_tup, e_ev_lst, e_ev_bin, e_ev_cmp, e_ev_chn, e_ev_and, e_ev_or, e_ev_not, e_ev_ite, e_ev_sub, e_ev_slc, e_ev_rev, e_ev_call, e_ev_bi, e_ev_isi, e_ev_index, e_ev_pop, e_ev_popAt, e_evs_nil, e_evs_cons, e_evAnd_one, e_evAnd_more, e_evOr_one, e_evOr_more, e_evO_no, e_evO_yes, e_evI_seq, e_evI_rng1, e_evI_rng2, e_evI_enm, e_evI_zp, e_xS_asg, e_xS_set, e_xS_par, e_xS_par3, e_xS_exp, e_xS_app, e_xS_ext, e_xS_setIx, e_xS_ret, e_xS_ife, e_xS_pas, e_xS_brk, e_xS_cnt, e_xS_nev, e_xsl_nil, e_xsl_cons, q_bind, q_toS, q_seq1, q_seq2, q_seq3, q_seq4, q_end1, q_end2, q_tst, q_pick, q_ret1, q_ret2, q_ret3, q_dv1, q_dv2, q_es1, q_es2, q_ea0, q_ea1, q_ea2, q_ea3, q_ec1, line0, line1, line2, line3, line4, line5, line6, line7, line8, q_sk1, q_sk2, q_sk3, q_noX, q_hold1, q_hold2, q_frz1, id, q_goS, q_sv1, q_sv2, q_sv3, q_ub1, q_ub2, q_pv, parS, parS3, Nat.reduceLT, Nat.reduceLeDiff, q_andK, q_orK, q_chnK, q_ite1, q_ite2, q_ite3, q_ite4, q_ite5, decide_eq_true_eq, Bool.not_eq_true', decide_eq_false_iff_not, q_add, q_sub, q_lt, q_le, q_gt, q_ge, q_eqI, q_neI, q_len1, q_len2, q_int1, q_int2, q_min, q_max, q_tup1, q_tup2, q_lst1, q_lst2, q_subL, q_subT, q_slL, q_slT, argE, List.getElem?_cons_zero, List.getElem?_cons_succ, List.getElem?_nil, List.map_cons, List.map_nil, List.replicate, List.nil_append, List.cons_append, List.append_nil, Option.map_some, Option.map_none, if_true, if_false, reduceIte, List.length_cons, List.length_nil, Nat.reduceAdd, Nat.reduceSub, List.mapM_cons, List.mapM_nil, Option.bind_eq_bind, Option.bind_some, Option.pure_def, atI_lit, List.set_cons_zero, List.set_cons_succ, q_as1, q_as2, q_as3, q_as4, q_as5, q_wp0, q_wp1, q_kp0, q_kp1, q_ed0, q_ed1, Bool.false_eq_true, Bool.not_true, Bool.not_false, e_xS_for_, web1, tiesD, h1, hb]
end K37

set_option Elab.async false
set_option linter.all false
set_option maxRecDepth 100000
set_option maxHeartbeats 8000000
set_option exponentiation.threshold 1000
set_option autoImplicit false
namespace K37
open PySem PySem.Spec L2 DL
theorem notin2 (a b c : Nat) : cmpD .notin (.int (a : Nat)) (.tuple [.int (b : Nat), .int (c : Nat)]) = some (decide (a ≠ b ∧ a ≠ c)) := notin_tie a (b, c)
theorem web1' (n : Nat) (ts : List Tie) : subD (webD n ts) (.int 1) = some (.tuple (ts.map tieD)) := web1 n ts
theorem pl_at' {n : Nat} {ts : List Tie} {ps : List Pt} (o : Ok n ts ps) {i : Nat} (h : i < n) : subD (plD ps) (.int (i : Nat)) = some (pt (at_ ps i)) := pl_at ps i (by rw [o.len]; exact h)
theorem m_law_meetings (k : Nat) (w : Wd) {n : Nat} {ts : List Tie} {ps : List Pt} (o : Ok n ts ps) :
    fnAt tab (k + 4) 13 [.fz (webD n ts), .fz (plD ps)] w = .ok (.lst (meetL ps ts)) w := by
  rw [fnAt_txt t__law_meetings (by decide) (k + 3) _ w rfl]
  have few := o.few
  have big : ∀ i, i ≤ ts.length → (upP ps ts i).length ≤ 10000 := fun i hi => by
    have h1 := upP_len ps ts i
    have h2 : i * ts.length ≤ 100 * 100 := Nat.mul_le_mul (by omega) few
    omega
  have outer : ∀ fn, fn = fnAt tab (k + 3) → ∃ e2 w2, forGo (.nm 3) (xsl fn (.cons (.asg (.tp (.cons (.nm 4) (.cons (.nm 5) .nil))) (.sub (.sub (.var 0) (.cI 1)) (.var 3))) (.cons (.for_ (.tp (.cons (.nm 6) (.cons (.nm 7) .nil))) (.seq (.slc (.sub (.var 0) (.cI 1)) (.yes (.bin .add (.var 3) (.cI 1))) .no)) (.cons (.ife (.and (.cons (.cmp .notin (.var 4) (.tup (.cons (.var 6) (.cons (.var 7) .nil)))) (.cons (.cmp .notin (.var 5) (.tup (.cons (.var 6) (.cons (.var 7) .nil)))) (.cons (.call 12 (.cons (.sub (.var 1) (.var 4)) (.cons (.sub (.var 1) (.var 5)) (.cons (.sub (.var 1) (.var 6)) (.cons (.sub (.var 1) (.var 7)) .nil))))) .nil)))) (.cons (.app 2 (.tup (.cons (.tup (.cons (.var 4) (.cons (.var 5) .nil))) (.cons (.tup (.cons (.var 6) (.cons (.var 7) .nil))) .nil)))) .nil) .nil) .nil)) .nil)))
      (rngL 0 ts.length) [some (.fz (webD n ts)), some (.fz (plD ps)), some (.lst []), none, none, none, none, none] w = .nx e2 w2 ∧
      (w2 = w ∧ ∃ x3 x4 x5 x6 x7 : Option EV, e2 = [some (.fz (webD n ts)), some (.fz (plD ps)), some (.lst (upP ps ts (rngL 0 ts.length).length)), x3, x4, x5, x6, x7]) := by
    rintro fn rfl
    refine for_ix (J := fun i env w' => w' = w ∧ ∃ x3 x4 x5 x6 x7 : Option EV, env = [some (.fz (webD n ts)), some (.fz (plD ps)), some (.lst (upP ps ts i)), x3, x4, x5, x6, x7]) ⟨rfl, none, none, none, none, none, rfl⟩ ?_
    rintro i d hd env w' ⟨rfl, x3, x4, x5, x6, x7, rfl⟩
    rw [rng0_at] at hd
    have hi : i < ts.length := by
      by_cases q : i < ts.length
      · exact q
      · rw [if_neg q] at hd; cases hd
    rw [if_pos hi] at hd
    cases hd
    have hti := o.tieAt hi
    refine ⟨[some (.fz (webD n ts)), some (.fz (plD ps)), some (.lst (upP ps ts i)), some (.fz (.int (i : Nat))), x4, x5, x6, x7], by simp only [e_ev_var, e_ev_cI, e_ev_cS, e_ev_cN, e_ev_cB, e_ev_neg, e_ev_tup, e_ev_lst, e_ev_bin, e_ev_cmp, e_ev_chn, e_ev_and, e_ev_or, e_ev_not, e_ev_ite, e_ev_sub, e_ev_slc, e_ev_rev, e_ev_call, e_ev_bi, e_ev_isi, e_ev_index, e_ev_pop, e_ev_popAt, e_evs_nil, e_evs_cons, e_evAnd_one, e_evAnd_more, e_evOr_one, e_evOr_more, e_evO_no, e_evO_yes, e_evI_seq, e_evI_rng1, e_evI_rng2, e_evI_enm, e_evI_zp, e_xS_asg, e_xS_set, e_xS_par, e_xS_par3, e_xS_exp, e_xS_app, e_xS_ext, e_xS_setIx, e_xS_ret, e_xS_ife, e_xS_pas, e_xS_brk, e_xS_cnt, e_xS_nev, e_xsl_nil, e_xsl_cons, q_bind, q_toS, q_seq1, q_seq2, q_seq3, q_seq4, q_end1, q_end2, q_tst, q_pick, q_ret1, q_ret2, q_ret3, q_dv1, q_dv2, q_es1, q_es2, q_ea0, q_ea1, q_ea2, q_ea3, q_ec1, line0, line1, line2, line3, line4, line5, line6, line7, line8, q_sk1, q_sk2, q_sk3, q_noX, q_hold1, q_hold2, q_frz1, id, q_goS, q_sv1, q_sv2, q_sv3, q_ub1, q_ub2, q_pv, parS, parS3, Nat.reduceLT, Nat.reduceLeDiff, q_andK, q_orK, q_chnK, q_ite1, q_ite2, q_ite3, q_ite4, q_ite5, decide_eq_true_eq, Bool.not_eq_true', decide_eq_false_iff_not, q_add, q_sub, q_lt, q_le, q_gt, q_ge, q_eqI, q_neI, q_len1, q_len2, q_int1, q_int2, q_min, q_max, q_tup1, q_tup2, q_lst1, q_lst2, q_subL, q_subT, q_slL, q_slT, argE, List.getElem?_cons_zero, List.getElem?_cons_succ, List.getElem?_nil, List.map_cons, List.map_nil, List.replicate, List.nil_append, List.cons_append, List.append_nil, Option.map_some, Option.map_none, if_true, if_false, reduceIte, List.length_cons, List.length_nil, Nat.reduceAdd, Nat.reduceSub, List.mapM_cons, List.mapM_nil, Option.bind_eq_bind, Option.bind_some, Option.pure_def, atI_lit, List.set_cons_zero, List.set_cons_succ, q_as1, q_as2, q_as3, q_as4, q_as5, q_wp0, q_wp1, q_kp0, q_kp1, q_ed0, q_ed1, Bool.false_eq_true, Bool.not_true, Bool.not_false], ?_⟩
    have inner := for_filterM (w := w') (g := tieD) (tg := (.tp (.cons (.nm 6) (.cons (.nm 7) .nil)))) (p := crossP ps (tieAt ts i)) (x := pairD (tieAt ts i)) (M := 20000)
      (b := xsl (fnAt tab (k + 3)) (.cons (.ife (.and (.cons (.cmp .notin (.var 4) (.tup (.cons (.var 6) (.cons (.var 7) .nil)))) (.cons (.cmp .notin (.var 5) (.tup (.cons (.var 6) (.cons (.var 7) .nil)))) (.cons (.call 12 (.cons (.sub (.var 1) (.var 4)) (.cons (.sub (.var 1) (.var 5)) (.cons (.sub (.var 1) (.var 6)) (.cons (.sub (.var 1) (.var 7)) .nil))))) .nil)))) (.cons (.app 2 (.tup (.cons (.tup (.cons (.var 4) (.cons (.var 5) .nil))) (.cons (.tup (.cons (.var 6) (.cons (.var 7) .nil))) .nil)))) .nil) .nil) .nil))
      (J := fun a env => ∃ x6 x7 : Option EV, env = [some (.fz (webD n ts)), some (.fz (plD ps)), some (.lst a), some (.fz (.int (i : Nat))), some (.fz (.int ((tieAt ts i).1 : Nat))), some (.fz (.int ((tieAt ts i).2 : Nat))), x6, x7])
      (ts.drop (i + 1)) (upP ps ts i) [some (.fz (webD n ts)), some (.fz (plD ps)), some (.lst (upP ps ts i)), some (.fz (.int (i : Nat))), some (.fz (.int ((tieAt ts i).1 : Nat))), some (.fz (.int ((tieAt ts i).2 : Nat))), x6, x7]
      (by have := big i (by omega); simp; omega) ⟨x6, x7, rfl⟩ ?_
    · obtain ⟨e2, h1, x6', x7', h2⟩ := inner
      have hcut : cutD (ts.map tieD) (some (((i : Nat) : Int) + 1)) none = (ts.drop (i + 1)).map tieD := by
        rw [show ((i : Nat) : Int) + 1 = ((i + 1 : Nat) : Int) by omega, cut_from, List.map_drop]
      have hsub : subD (.tuple (ts.map tieD)) (.int (i : Nat)) = some (.tuple [.int ((tieAt ts i).1 : Nat), .int ((tieAt ts i).2 : Nat)]) := by
        rw [q_subT, DL.atI_nat, ties_at ts i hi]; rfl
      refine ⟨e2, w', .inl ?_, rfl, some (.fz (.int (i : Nat))), some (.fz (.int ((tieAt ts i).1 : Nat))), some (.fz (.int ((tieAt ts i).2 : Nat))), x6', x7', ?_⟩
      · rw [DL.q_subT] at hsub
        simp only [e_ev_var, e_ev_cI, e_ev_cS, e_ev_cN, e_ev_cB, e_ev_neg, e_ev_tup, e_ev_lst, e_ev_bin, e_ev_cmp, e_ev_chn, e_ev_and, e_ev_or, e_ev_not, e_ev_ite, e_ev_sub, e_ev_slc, e_ev_rev, e_ev_call, e_ev_bi, e_ev_isi, e_ev_index, e_ev_pop, e_ev_popAt, e_evs_nil, e_evs_cons, e_evAnd_one, e_evAnd_more, e_evOr_one, e_evOr_more, e_evO_no, e_evO_yes, e_evI_seq, e_evI_rng1, e_evI_rng2, e_evI_enm, e_evI_zp, e_xS_asg, e_xS_set, e_xS_par, e_xS_par3, e_xS_exp, e_xS_app, e_xS_ext, e_xS_setIx, e_xS_ret, e_xS_ife, e_xS_pas, e_xS_brk, e_xS_cnt, e_xS_nev, e_xsl_nil, e_xsl_cons, q_bind, q_toS, q_seq1, q_seq2, q_seq3, q_seq4, q_end1, q_end2, q_tst, q_pick, q_ret1, q_ret2, q_ret3, q_dv1, q_dv2, q_es1, q_es2, q_ea0, q_ea1, q_ea2, q_ea3, q_ec1, line0, line1, line2, line3, line4, line5, line6, line7, line8, q_sk1, q_sk2, q_sk3, q_noX, q_hold1, q_hold2, q_frz1, id, q_goS, q_sv1, q_sv2, q_sv3, q_ub1, q_ub2, q_pv, parS, parS3, Nat.reduceLT, Nat.reduceLeDiff, q_andK, q_orK, q_chnK, q_ite1, q_ite2, q_ite3, q_ite4, q_ite5, decide_eq_true_eq, Bool.not_eq_true', decide_eq_false_iff_not, q_add, q_sub, q_lt, q_le, q_gt, q_ge, q_eqI, q_neI, q_len1, q_len2, q_int1, q_int2, q_min, q_max, q_tup1, q_tup2, q_lst1, q_lst2, q_subL, q_subT, q_slL, q_slT, argE, List.getElem?_cons_zero, List.getElem?_cons_succ, List.getElem?_nil, List.map_cons, List.map_nil, List.replicate, List.nil_append, List.cons_append, List.append_nil, Option.map_some, Option.map_none, if_true, if_false, reduceIte, List.length_cons, List.length_nil, Nat.reduceAdd, Nat.reduceSub, List.mapM_cons, List.mapM_nil, Option.bind_eq_bind, Option.bind_some, Option.pure_def, atI_lit, List.set_cons_zero, List.set_cons_succ, q_as1, q_as2, q_as3, q_as4, q_as5, q_wp0, q_wp1, q_kp0, q_kp1, q_ed0, q_ed1, Bool.false_eq_true, Bool.not_true, Bool.not_false, e_xS_for_, web1', hcut, hsub, h1]
      · rw [h2, upP_succ]
        rfl
    · rintro t ht a env ha ⟨x6, x7, rfl⟩
      have htt := o.tie t (mem_drop ht)
      refine ⟨[some (.fz (webD n ts)), some (.fz (plD ps)), some (.lst a), some (.fz (.int (i : Nat))), some (.fz (.int ((tieAt ts i).1 : Nat))), some (.fz (.int ((tieAt ts i).2 : Nat))), some (.fz (.int (t.1 : Nat))), some (.fz (.int (t.2 : Nat)))], by simp only [tieD, e_ev_var, e_ev_cI, e_ev_cS, e_ev_cN, e_ev_cB, e_ev_neg, e_ev_tup, e_ev_lst, e_ev_bin, e_ev_cmp, e_ev_chn, e_ev_and, e_ev_or, e_ev_not, e_ev_ite, e_ev_sub, e_ev_slc, e_ev_rev, e_ev_call, e_ev_bi, e_ev_isi, e_ev_index, e_ev_pop, e_ev_popAt, e_evs_nil, e_evs_cons, e_evAnd_one, e_evAnd_more, e_evOr_one, e_evOr_more, e_evO_no, e_evO_yes, e_evI_seq, e_evI_rng1, e_evI_rng2, e_evI_enm, e_evI_zp, e_xS_asg, e_xS_set, e_xS_par, e_xS_par3, e_xS_exp, e_xS_app, e_xS_ext, e_xS_setIx, e_xS_ret, e_xS_ife, e_xS_pas, e_xS_brk, e_xS_cnt, e_xS_nev, e_xsl_nil, e_xsl_cons, q_bind, q_toS, q_seq1, q_seq2, q_seq3, q_seq4, q_end1, q_end2, q_tst, q_pick, q_ret1, q_ret2, q_ret3, q_dv1, q_dv2, q_es1, q_es2, q_ea0, q_ea1, q_ea2, q_ea3, q_ec1, line0, line1, line2, line3, line4, line5, line6, line7, line8, q_sk1, q_sk2, q_sk3, q_noX, q_hold1, q_hold2, q_frz1, id, q_goS, q_sv1, q_sv2, q_sv3, q_ub1, q_ub2, q_pv, parS, parS3, Nat.reduceLT, Nat.reduceLeDiff, q_andK, q_orK, q_chnK, q_ite1, q_ite2, q_ite3, q_ite4, q_ite5, decide_eq_true_eq, Bool.not_eq_true', decide_eq_false_iff_not, q_add, q_sub, q_lt, q_le, q_gt, q_ge, q_eqI, q_neI, q_len1, q_len2, q_int1, q_int2, q_min, q_max, q_tup1, q_tup2, q_lst1, q_lst2, q_subL, q_subT, q_slL, q_slT, argE, List.getElem?_cons_zero, List.getElem?_cons_succ, List.getElem?_nil, List.map_cons, List.map_nil, List.replicate, List.nil_append, List.cons_append, List.append_nil, Option.map_some, Option.map_none, if_true, if_false, reduceIte, List.length_cons, List.length_nil, Nat.reduceAdd, Nat.reduceSub, List.mapM_cons, List.mapM_nil, Option.bind_eq_bind, Option.bind_some, Option.pure_def, atI_lit, List.set_cons_zero, List.set_cons_succ, q_as1, q_as2, q_as3, q_as4, q_as5, q_wp0, q_wp1, q_kp0, q_kp1, q_ed0, q_ed1, Bool.false_eq_true, Bool.not_true, Bool.not_false], ?_⟩
      have hm := m_law_meet k w' (at_ ps (tieAt ts i).1) (at_ ps (tieAt ts i).2) (at_ ps t.1) (at_ ps t.2) (o.at hti.1) (o.at hti.2) (o.at htt.1) (o.at htt.2)
      rw [← meet_eq] at hm
      refine ⟨[some (.fz (webD n ts)), some (.fz (plD ps)), some (.lst (if crossP ps (tieAt ts i) t = true then a ++ [pairD (tieAt ts i) t] else a)), some (.fz (.int (i : Nat))), some (.fz (.int ((tieAt ts i).1 : Nat))), some (.fz (.int ((tieAt ts i).2 : Nat))), some (.fz (.int (t.1 : Nat))), some (.fz (.int (t.2 : Nat)))], ?_, ?_⟩
      · have hap := q_app1 (n := 2) (w := w') (ds := a) (d := .tuple [.tuple [.int ((tieAt ts i).1 : Nat), .int ((tieAt ts i).2 : Nat)], .tuple [.int (t.1 : Nat), .int (t.2 : Nat)]]) (env := [some (.fz (webD n ts)), some (.fz (plD ps)), some (.lst a), some (.fz (.int (i : Nat))), some (.fz (.int ((tieAt ts i).1 : Nat))), some (.fz (.int ((tieAt ts i).2 : Nat))), some (.fz (.int (t.1 : Nat))), some (.fz (.int (t.2 : Nat)))]) rfl (Nat.lt_of_lt_of_le ha (by decide))
        simp only [e_ev_var, e_ev_cI, e_ev_cS, e_ev_cN, e_ev_cB, e_ev_neg, e_ev_tup, e_ev_lst, e_ev_bin, e_ev_cmp, e_ev_chn, e_ev_and, e_ev_or, e_ev_not, e_ev_ite, e_ev_sub, e_ev_slc, e_ev_rev, e_ev_call, e_ev_bi, e_ev_isi, e_ev_index, e_ev_pop, e_ev_popAt, e_evs_nil, e_evs_cons, e_evAnd_one, e_evAnd_more, e_evOr_one, e_evOr_more, e_evO_no, e_evO_yes, e_evI_seq, e_evI_rng1, e_evI_rng2, e_evI_enm, e_evI_zp, e_xS_asg, e_xS_set, e_xS_par, e_xS_par3, e_xS_exp, e_xS_app, e_xS_ext, e_xS_setIx, e_xS_ret, e_xS_ife, e_xS_pas, e_xS_brk, e_xS_cnt, e_xS_nev, e_xsl_nil, e_xsl_cons, q_bind, q_toS, q_seq1, q_seq2, q_seq3, q_seq4, q_end1, q_end2, q_tst, q_pick, q_ret1, q_ret2, q_ret3, q_dv1, q_dv2, q_es1, q_es2, q_ea0, q_ea1, q_ea2, q_ea3, q_ec1, line0, line1, line2, line3, line4, line5, line6, line7, line8, q_sk1, q_sk2, q_sk3, q_noX, q_hold1, q_hold2, q_frz1, id, q_goS, q_sv1, q_sv2, q_sv3, q_ub1, q_ub2, q_pv, parS, parS3, Nat.reduceLT, Nat.reduceLeDiff, q_andK, q_orK, q_chnK, q_ite1, q_ite2, q_ite3, q_ite4, q_ite5, decide_eq_true_eq, Bool.not_eq_true', decide_eq_false_iff_not, q_add, q_sub, q_lt, q_le, q_gt, q_ge, q_eqI, q_neI, q_len1, q_len2, q_int1, q_int2, q_min, q_max, q_tup1, q_tup2, q_lst1, q_lst2, q_subL, q_subT, q_slL, q_slT, argE, List.getElem?_cons_zero, List.getElem?_cons_succ, List.getElem?_nil, List.map_cons, List.map_nil, List.replicate, List.nil_append, List.cons_append, List.append_nil, Option.map_some, Option.map_none, if_true, if_false, reduceIte, List.length_cons, List.length_nil, Nat.reduceAdd, Nat.reduceSub, List.mapM_cons, List.mapM_nil, Option.bind_eq_bind, Option.bind_some, Option.pure_def, atI_lit, List.set_cons_zero, List.set_cons_succ, q_as1, q_as2, q_as3, q_as4, q_as5, q_wp0, q_wp1, q_kp0, q_kp1, q_ed0, q_ed1, Bool.false_eq_true, Bool.not_true, Bool.not_false, notin2, pl_at' o hti.1, pl_at' o hti.2, pl_at' o htt.1, pl_at' o htt.2, hm, hap]
        unfold crossP
        by_cases c1 : (tieAt ts i).1 ≠ t.1 ∧ (tieAt ts i).1 ≠ t.2
        · by_cases c2 : (tieAt ts i).2 ≠ t.1 ∧ (tieAt ts i).2 ≠ t.2
          · rw [if_pos c1, if_pos c2, decide_eq_true c1, decide_eq_true c2, Bool.true_and, Bool.true_and]
            split <;> rfl
          · rw [if_pos c1, if_neg c2, decide_eq_true c1, decide_eq_false c2, Bool.true_and, Bool.false_and]
            rfl
        · rw [if_neg c1, decide_eq_false c1, Bool.false_and]
          rfl
      · exact ⟨some (.fz (.int (t.1 : Nat))), some (.fz (.int (t.2 : Nat))), by split <;> rfl⟩
  obtain ⟨e2, w2, h1, rfl, x3, x4, x5, x6, x7, h2⟩ := outer _ rfl
  rw [show (rngL 0 ts.length).length = ts.length from rngL_len _ _] at h2
  subst h2
  have hb : retV [some (.fz (webD n ts)), some (.fz (plD ps)), some (.lst (upP ps ts ts.length)), x3, x4, x5, x6, x7] (.bor 2) = some (.lst (meetL ps ts)) := rfl
  have hI : evI (fnAt tab (k + 3)) (.rng1 (.bi .len (.cons (.sub (.var 0) (.cI 1)) .nil))) [some (.fz (webD n ts)), some (.fz (plD ps)), some (.lst []), none, none, none, none, none] w2 = _ := evI_rng1N (n := ts.length) (e1 := [some (.fz (webD n ts)), some (.fz (plD ps)), some (.lst []), none, none, none, none, none]) (w1 := w2) (by simp only [e_ev_var, e_ev_cI, e_ev_cS, e_ev_cN, e_ev_cB, e_ev_neg, e_ev_tup, e_ev_lst, e_ev_bin, e_ev_cmp, e_ev_chn, e_ev_and, e_ev_or, e_ev_not, e_ev_ite, e_ev_sub, e_ev_slc, e_ev_rev, e_ev_call, e_ev_bi, e_ev_isi, e_ev_index, e_ev_pop, e_ev_popAt, e_evs_nil, e_evs_cons, e_evAnd_one, e_evAnd_more, e_evOr_one, e_evOr_more, e_evO_no, e_evO_yes, e_evI_seq, e_evI_rng1, e_evI_rng2, e_evI_enm, e_evI_zp, e_xS_asg, e_xS_set, e_xS_par, e_xS_par3, e_xS_exp, e_xS_app, e_xS_ext, e_xS_setIx, e_xS_ret, e_xS_ife, e_xS_pas, e_xS_brk, e_xS_cnt, e_xS_nev, e_xsl_nil, e_xsl_cons, q_bind, q_toS, q_seq1, q_seq2, q_seq3, q_seq4, q_end1, q_end2, q_tst, q_pick, q_ret1, q_ret2, q_ret3, q_dv1, q_dv2, q_es1, q_es2, q_ea0, q_ea1, q_ea2, q_ea3, q_ec1, line0, line1, line2, line3, line4, line5, line6, line7, line8, q_sk1, q_sk2, q_sk3, q_noX, q_hold1, q_hold2, q_frz1, id, q_goS, q_sv1, q_sv2, q_sv3, q_ub1, q_ub2, q_pv, parS, parS3, Nat.reduceLT, Nat.reduceLeDiff, q_andK, q_orK, q_chnK, q_ite1, q_ite2, q_ite3, q_ite4, q_ite5, decide_eq_true_eq, Bool.not_eq_true', decide_eq_false_iff_not, q_add, q_sub, q_lt, q_le, q_gt, q_ge, q_eqI, q_neI, q_len1, q_len2, q_int1, q_int2, q_min, q_max, q_tup1, q_tup2, q_lst1, q_lst2, q_subL, q_subT, q_slL, q_slT, argE, List.getElem?_cons_zero, List.getElem?_cons_succ, List.getElem?_nil, List.map_cons, List.map_nil, List.replicate, List.nil_append, List.cons_append, List.append_nil, Option.map_some, Option.map_none, if_true, if_false, reduceIte, List.length_cons, List.length_nil, Nat.reduceAdd, Nat.reduceSub, List.mapM_cons, List.mapM_nil, Option.bind_eq_bind, Option.bind_some, Option.pure_def, atI_lit, List.set_cons_zero, List.set_cons_succ, q_as1, q_as2, q_as3, q_as4, q_as5, q_wp0, q_wp1, q_kp0, q_kp1, q_ed0, q_ed1, Bool.false_eq_true, Bool.not_true, Bool.not_false, web1', List.length_map]) (by omega)
  have fin : ∀ fn : Fns, xS fn (.for_ (.nm 3) (.rng1 (.bi .len (.cons (.sub (.var 0) (.cI 1)) .nil))) (.cons (.asg (.tp (.cons (.nm 4) (.cons (.nm 5) .nil))) (.sub (.sub (.var 0) (.cI 1)) (.var 3))) (.cons (.for_ (.tp (.cons (.nm 6) (.cons (.nm 7) .nil))) (.seq (.slc (.sub (.var 0) (.cI 1)) (.yes (.bin .add (.var 3) (.cI 1))) .no)) (.cons (.ife (.and (.cons (.cmp .notin (.var 4) (.tup (.cons (.var 6) (.cons (.var 7) .nil)))) (.cons (.cmp .notin (.var 5) (.tup (.cons (.var 6) (.cons (.var 7) .nil)))) (.cons (.call 12 (.cons (.sub (.var 1) (.var 4)) (.cons (.sub (.var 1) (.var 5)) (.cons (.sub (.var 1) (.var 6)) (.cons (.sub (.var 1) (.var 7)) .nil))))) .nil)))) (.cons (.app 2 (.tup (.cons (.tup (.cons (.var 4) (.cons (.var 5) .nil))) (.cons (.tup (.cons (.var 6) (.cons (.var 7) .nil))) .nil)))) .nil) .nil) .nil)) .nil))) [some (.fz (webD n ts)), some (.fz (plD ps)), some (.lst []), none, none, none, none, none] w2 = .nx [some (.fz (webD n ts)), some (.fz (plD ps)), some (.lst (upP ps ts ts.length)), x3, x4, x5, x6, x7] w2 → endS (xsl fn b__law_meetings (argE 8 [.fz (webD n ts), .fz (plD ps)]) w2) = .ok (.lst (meetL ps ts)) w2 := by
    intro fn hF
    simp only [b__law_meetings, e_ev_var, e_ev_cI, e_ev_cS, e_ev_cN, e_ev_cB, e_ev_neg, e_ev_tup, e_ev_lst, e_ev_bin, e_ev_cmp, e_ev_chn, e_ev_and, e_ev_or, e_ev_not, e_ev_ite, e_ev_sub, e_ev_slc, e_ev_rev, e_ev_call, e_ev_bi, e_ev_isi, e_ev_index, e_ev_pop, e_ev_popAt, e_evs_nil, e_evs_cons, e_evAnd_one, e_evAnd_more, e_evOr_one, e_evOr_more, e_evO_no, e_evO_yes, e_evI_seq, e_evI_rng1, e_evI_rng2, e_evI_enm, e_evI_zp, e_xS_asg, e_xS_set, e_xS_par, e_xS_par3, e_xS_exp, e_xS_app, e_xS_ext, e_xS_setIx, e_xS_ret, e_xS_ife, e_xS_pas, e_xS_brk, e_xS_cnt, e_xS_nev, e_xsl_nil, e_xsl_cons, q_bind, q_toS, q_seq1, q_seq2, q_seq3, q_seq4, q_end1, q_end2, q_tst, q_pick, q_ret1, q_ret2, q_ret3, q_dv1, q_dv2, q_es1, q_es2, q_ea0, q_ea1, q_ea2, q_ea3, q_ec1, line0, line1, line2, line3, line4, line5, line6, line7, line8, q_sk1, q_sk2, q_sk3, q_noX, q_hold1, q_hold2, q_frz1, id, q_goS, q_sv1, q_sv2, q_sv3, q_ub1, q_ub2, q_pv, parS, parS3, Nat.reduceLT, Nat.reduceLeDiff, q_andK, q_orK, q_chnK, q_ite1, q_ite2, q_ite3, q_ite4, q_ite5, decide_eq_true_eq, Bool.not_eq_true', decide_eq_false_iff_not, q_add, q_sub, q_lt, q_le, q_gt, q_ge, q_eqI, q_neI, q_len1, q_len2, q_int1, q_int2, q_min, q_max, q_tup1, q_tup2, q_lst1, q_lst2, q_subL, q_subT, q_slL, q_slT, argE, List.getElem?_cons_zero, List.getElem?_cons_succ, List.getElem?_nil, List.map_cons, List.map_nil, List.replicate, List.nil_append, List.cons_append, List.append_nil, Option.map_some, Option.map_none, if_true, if_false, reduceIte, List.length_cons, List.length_nil, Nat.reduceAdd, Nat.reduceSub, List.mapM_cons, List.mapM_nil, Option.bind_eq_bind, Option.bind_some, Option.pure_def, atI_lit, List.set_cons_zero, List.set_cons_succ, q_as1, q_as2, q_as3, q_as4, q_as5, q_wp0, q_wp1, q_kp0, q_kp1, q_ed0, q_ed1, Bool.false_eq_true, Bool.not_true, Bool.not_false, hF, hb]
  exact fin _ (xS_forN hI h1)
end K37

set_option Elab.async false
set_option linter.all false
set_option maxRecDepth 100000
set_option maxHeartbeats 8000000
set_option exponentiation.threshold 1000
set_option autoImplicit false
namespace K37
open PySem PySem.Spec L2 DL
/-! ### the first two faults -/
theorem okEq_pt (p q : Pt) : okEq (pt p) (pt q) = true := rfl
theorem eq_pt (p q : Pt) : cmpD .eq (pt p) (pt q) = some (decide (p = q)) := by
  rw [q_eq (okEq_pt p q)]
  congr 1
  rw [← Bool.decide_coe (PyData.eqv _ _), decide_eq_decide]
  obtain ⟨a, b⟩ := p
  obtain ⟨c, d⟩ := q
  simp [pt, PyData.eqv, PyData.eqvAll]
def sameOf (ps : List Pt) (a b : Nat) : Option EV := if at_ ps a = at_ ps b then some (.fz (.tuple [.str "same", .int (a : Nat), .int (b : Nat)])) else none
def sameIn (n : Nat) (ps : List Pt) (a : Nat) : Option EV := (List.range' (a + 1) (n - (a + 1))).findSome? (sameOf ps a)
def sameAll (n : Nat) (ps : List Pt) : Option EV := (List.range n).findSome? (sameIn n ps)
def onOf (ps : List Pt) (v : Nat) (t : Tie) : Option EV := if (v ≠ t.1 ∧ v ≠ t.2) ∧ betwZ (at_ ps t.1) (at_ ps t.2) (at_ ps v) = true then some (.fz (.tuple [.str "on", .int (v : Nat), .int (t.1 : Nat), .int (t.2 : Nat)])) else none
def onIn (ts : List Tie) (ps : List Pt) (v : Nat) : Option EV := ts.findSome? (onOf ps v)
def onAll (n : Nat) (ts : List Tie) (ps : List Pt) : Option EV := (List.range n).findSome? (onIn ts ps)
def noneD : Option EV → EV
  | some v => v
  | none => .fz .none
theorem m_first_same (k : Nat) (w : Wd) {n : Nat} {ts : List Tie} {ps : List Pt} (o : Ok n ts ps) :
    fnAt tab (k + 1) 5 [.fz (webD n ts), .fz (plD ps)] w = .ok (noneD (sameAll n ps)) w := by
  rw [fnAt_txt t_first_same (by decide) k _ w rfl]
  have n9 := o.n9
  have H : ∀ fn : Fns, match (List.range n).findSome? (sameIn n ps) with
      | some v => xS fn (.for_ (.nm 2) (.rng1 (.sub (.var 0) (.cI 0))) (.cons (.for_ (.nm 3) (.rng2 (.bin .add (.var 2) (.cI 1)) (.sub (.var 0) (.cI 0))) (.cons (.ife (.cmp .eq (.sub (.var 1) (.var 2)) (.sub (.var 1) (.var 3))) (.cons (.ret (.tup (.cons (.cS "same") (.cons (.var 2) (.cons (.var 3) .nil))))) .nil) .nil) .nil)) .nil)) [some (.fz (webD n ts)), some (.fz (plD ps)), none, none] w = .rt v w
      | none => ∃ e2, xS fn (.for_ (.nm 2) (.rng1 (.sub (.var 0) (.cI 0))) (.cons (.for_ (.nm 3) (.rng2 (.bin .add (.var 2) (.cI 1)) (.sub (.var 0) (.cI 0))) (.cons (.ife (.cmp .eq (.sub (.var 1) (.var 2)) (.sub (.var 1) (.var 3))) (.cons (.ret (.tup (.cons (.cS "same") (.cons (.var 2) (.cons (.var 3) .nil))))) .nil) .nil) .nil)) .nil)) [some (.fz (webD n ts)), some (.fz (plD ps)), none, none] w = .nx e2 w ∧ ∃ x2 x3 : Option EV, e2 = [some (.fz (webD n ts)), some (.fz (plD ps)), x2, x3] := by
    intro fn
    refine xS_findM (g := fun i : Nat => .int (i : Nat)) (r := []) (e1 := [some (.fz (webD n ts)), some (.fz (plD ps)), none, none]) (J := fun e => ∃ x2 x3 : Option EV, e = [some (.fz (webD n ts)), some (.fz (plD ps)), x2, x3]) (List.range n) ?_ ⟨_, _, rfl⟩ ?_
    · rw [← rng0_map]
      exact evI_rng1N (by simp only [e_ev_var, e_ev_cI, e_ev_cS, e_ev_cN, e_ev_cB, e_ev_neg, e_ev_tup, e_ev_lst, e_ev_bin, e_ev_cmp, e_ev_chn, e_ev_and, e_ev_or, e_ev_not, e_ev_ite, e_ev_sub, e_ev_slc, e_ev_rev, e_ev_call, e_ev_bi, e_ev_isi, e_ev_index, e_ev_pop, e_ev_popAt, e_evs_nil, e_evs_cons, e_evAnd_one, e_evAnd_more, e_evOr_one, e_evOr_more, e_evO_no, e_evO_yes, e_evI_seq, e_evI_rng1, e_evI_rng2, e_evI_enm, e_evI_zp, e_xS_asg, e_xS_set, e_xS_par, e_xS_par3, e_xS_exp, e_xS_app, e_xS_ext, e_xS_setIx, e_xS_ret, e_xS_ife, e_xS_pas, e_xS_brk, e_xS_cnt, e_xS_nev, e_xsl_nil, e_xsl_cons, q_bind, q_toS, q_seq1, q_seq2, q_seq3, q_seq4, q_end1, q_end2, q_tst, q_pick, q_ret1, q_ret2, q_ret3, q_dv1, q_dv2, q_es1, q_es2, q_ea0, q_ea1, q_ea2, q_ea3, q_ec1, line0, line1, line2, line3, line4, line5, line6, line7, line8, q_sk1, q_sk2, q_sk3, q_noX, q_hold1, q_hold2, q_frz1, id, q_goS, q_sv1, q_sv2, q_sv3, q_ub1, q_ub2, q_pv, parS, parS3, Nat.reduceLT, Nat.reduceLeDiff, q_andK, q_orK, q_chnK, q_ite1, q_ite2, q_ite3, q_ite4, q_ite5, decide_eq_true_eq, Bool.not_eq_true', decide_eq_false_iff_not, q_add, q_sub, q_lt, q_le, q_gt, q_ge, q_eqI, q_neI, q_len1, q_len2, q_int1, q_int2, q_min, q_max, q_tup1, q_tup2, q_lst1, q_lst2, q_subL, q_subT, q_slL, q_slT, argE, List.getElem?_cons_zero, List.getElem?_cons_succ, List.getElem?_nil, List.map_cons, List.map_nil, List.replicate, List.nil_append, List.cons_append, List.append_nil, Option.map_some, Option.map_none, if_true, if_false, reduceIte, List.length_cons, List.length_nil, Nat.reduceAdd, Nat.reduceSub, List.mapM_cons, List.mapM_nil, Option.bind_eq_bind, Option.bind_some, Option.pure_def, atI_lit, List.set_cons_zero, List.set_cons_succ, q_as1, q_as2, q_as3, q_as4, q_as5, q_wp0, q_wp1, q_kp0, q_kp1, q_ed0, q_ed1, Bool.false_eq_true, Bool.not_true, Bool.not_false, web0]) (by omega)
    · rintro a ha env ⟨x2, x3, rfl⟩
      have han : a < n := by simpa using ha
      refine ⟨[some (.fz (webD n ts)), some (.fz (plD ps)), some (.fz (.int (a : Nat))), x3], by simp only [e_ev_var, e_ev_cI, e_ev_cS, e_ev_cN, e_ev_cB, e_ev_neg, e_ev_tup, e_ev_lst, e_ev_bin, e_ev_cmp, e_ev_chn, e_ev_and, e_ev_or, e_ev_not, e_ev_ite, e_ev_sub, e_ev_slc, e_ev_rev, e_ev_call, e_ev_bi, e_ev_isi, e_ev_index, e_ev_pop, e_ev_popAt, e_evs_nil, e_evs_cons, e_evAnd_one, e_evAnd_more, e_evOr_one, e_evOr_more, e_evO_no, e_evO_yes, e_evI_seq, e_evI_rng1, e_evI_rng2, e_evI_enm, e_evI_zp, e_xS_asg, e_xS_set, e_xS_par, e_xS_par3, e_xS_exp, e_xS_app, e_xS_ext, e_xS_setIx, e_xS_ret, e_xS_ife, e_xS_pas, e_xS_brk, e_xS_cnt, e_xS_nev, e_xsl_nil, e_xsl_cons, q_bind, q_toS, q_seq1, q_seq2, q_seq3, q_seq4, q_end1, q_end2, q_tst, q_pick, q_ret1, q_ret2, q_ret3, q_dv1, q_dv2, q_es1, q_es2, q_ea0, q_ea1, q_ea2, q_ea3, q_ec1, line0, line1, line2, line3, line4, line5, line6, line7, line8, q_sk1, q_sk2, q_sk3, q_noX, q_hold1, q_hold2, q_frz1, id, q_goS, q_sv1, q_sv2, q_sv3, q_ub1, q_ub2, q_pv, parS, parS3, Nat.reduceLT, Nat.reduceLeDiff, q_andK, q_orK, q_chnK, q_ite1, q_ite2, q_ite3, q_ite4, q_ite5, decide_eq_true_eq, Bool.not_eq_true', decide_eq_false_iff_not, q_add, q_sub, q_lt, q_le, q_gt, q_ge, q_eqI, q_neI, q_len1, q_len2, q_int1, q_int2, q_min, q_max, q_tup1, q_tup2, q_lst1, q_lst2, q_subL, q_subT, q_slL, q_slT, argE, List.getElem?_cons_zero, List.getElem?_cons_succ, List.getElem?_nil, List.map_cons, List.map_nil, List.replicate, List.nil_append, List.cons_append, List.append_nil, Option.map_some, Option.map_none, if_true, if_false, reduceIte, List.length_cons, List.length_nil, Nat.reduceAdd, Nat.reduceSub, List.mapM_cons, List.mapM_nil, Option.bind_eq_bind, Option.bind_some, Option.pure_def, atI_lit, List.set_cons_zero, List.set_cons_succ, q_as1, q_as2, q_as3, q_as4, q_as5, q_wp0, q_wp1, q_kp0, q_kp1, q_ed0, q_ed1, Bool.false_eq_true, Bool.not_true, Bool.not_false], ?_⟩
      have I := xS_findM (fn := fn) (w := w) (env := [some (.fz (webD n ts)), some (.fz (plD ps)), some (.fz (.int (a : Nat))), x3]) (tg := (.nm 3)) (it := (.rng2 (.bin .add (.var 2) (.cI 1)) (.sub (.var 0) (.cI 0)))) (b := (.cons (.ife (.cmp .eq (.sub (.var 1) (.var 2)) (.sub (.var 1) (.var 3))) (.cons (.ret (.tup (.cons (.cS "same") (.cons (.var 2) (.cons (.var 3) .nil))))) .nil) .nil) .nil))
        (g := fun i : Nat => .int (i : Nat)) (r := []) (e1 := [some (.fz (webD n ts)), some (.fz (plD ps)), some (.fz (.int (a : Nat))), x3]) (f := sameOf ps a) (J := fun e => ∃ x3 : Option EV, e = [some (.fz (webD n ts)), some (.fz (plD ps)), some (.fz (.int (a : Nat))), x3]) (List.range' (a + 1) (n - (a + 1))) ?_ ⟨_, rfl⟩ ?_
      · unfold sameIn
        cases q : (List.range' (a + 1) (n - (a + 1))).findSome? (sameOf ps a) with
        | some v =>
          rw [q] at I
          exact xsl_rt I
        | none =>
          rw [q] at I
          obtain ⟨e2, h1, x3', h2⟩ := I
          exact ⟨e2, by rw [xsl_nx h1, e_xsl_nil], _, _, h2⟩
      · rw [← rng1_map]
        exact evI_rng2N (e1 := [some (.fz (webD n ts)), some (.fz (plD ps)), some (.fz (.int (a : Nat))), x3]) (w1 := w) (by simp only [e_ev_var, e_ev_cI, e_ev_cS, e_ev_cN, e_ev_cB, e_ev_neg, e_ev_tup, e_ev_lst, e_ev_bin, e_ev_cmp, e_ev_chn, e_ev_and, e_ev_or, e_ev_not, e_ev_ite, e_ev_sub, e_ev_slc, e_ev_rev, e_ev_call, e_ev_bi, e_ev_isi, e_ev_index, e_ev_pop, e_ev_popAt, e_evs_nil, e_evs_cons, e_evAnd_one, e_evAnd_more, e_evOr_one, e_evOr_more, e_evO_no, e_evO_yes, e_evI_seq, e_evI_rng1, e_evI_rng2, e_evI_enm, e_evI_zp, e_xS_asg, e_xS_set, e_xS_par, e_xS_par3, e_xS_exp, e_xS_app, e_xS_ext, e_xS_setIx, e_xS_ret, e_xS_ife, e_xS_pas, e_xS_brk, e_xS_cnt, e_xS_nev, e_xsl_nil, e_xsl_cons, q_bind, q_toS, q_seq1, q_seq2, q_seq3, q_seq4, q_end1, q_end2, q_tst, q_pick, q_ret1, q_ret2, q_ret3, q_dv1, q_dv2, q_es1, q_es2, q_ea0, q_ea1, q_ea2, q_ea3, q_ec1, line0, line1, line2, line3, line4, line5, line6, line7, line8, q_sk1, q_sk2, q_sk3, q_noX, q_hold1, q_hold2, q_frz1, id, q_goS, q_sv1, q_sv2, q_sv3, q_ub1, q_ub2, q_pv, parS, parS3, Nat.reduceLT, Nat.reduceLeDiff, q_andK, q_orK, q_chnK, q_ite1, q_ite2, q_ite3, q_ite4, q_ite5, decide_eq_true_eq, Bool.not_eq_true', decide_eq_false_iff_not, q_add, q_sub, q_lt, q_le, q_gt, q_ge, q_eqI, q_neI, q_len1, q_len2, q_int1, q_int2, q_min, q_max, q_tup1, q_tup2, q_lst1, q_lst2, q_subL, q_subT, q_slL, q_slT, argE, List.getElem?_cons_zero, List.getElem?_cons_succ, List.getElem?_nil, List.map_cons, List.map_nil, List.replicate, List.nil_append, List.cons_append, List.append_nil, Option.map_some, Option.map_none, if_true, if_false, reduceIte, List.length_cons, List.length_nil, Nat.reduceAdd, Nat.reduceSub, List.mapM_cons, List.mapM_nil, Option.bind_eq_bind, Option.bind_some, Option.pure_def, atI_lit, List.set_cons_zero, List.set_cons_succ, q_as1, q_as2, q_as3, q_as4, q_as5, q_wp0, q_wp1, q_kp0, q_kp1, q_ed0, q_ed1, Bool.false_eq_true, Bool.not_true, Bool.not_false, web0]) (by omega) (by simp only [e_ev_var, e_ev_cI, e_ev_cS, e_ev_cN, e_ev_cB, e_ev_neg, e_ev_tup, e_ev_lst, e_ev_bin, e_ev_cmp, e_ev_chn, e_ev_and, e_ev_or, e_ev_not, e_ev_ite, e_ev_sub, e_ev_slc, e_ev_rev, e_ev_call, e_ev_bi, e_ev_isi, e_ev_index, e_ev_pop, e_ev_popAt, e_evs_nil, e_evs_cons, e_evAnd_one, e_evAnd_more, e_evOr_one, e_evOr_more, e_evO_no, e_evO_yes, e_evI_seq, e_evI_rng1, e_evI_rng2, e_evI_enm, e_evI_zp, e_xS_asg, e_xS_set, e_xS_par, e_xS_par3, e_xS_exp, e_xS_app, e_xS_ext, e_xS_setIx, e_xS_ret, e_xS_ife, e_xS_pas, e_xS_brk, e_xS_cnt, e_xS_nev, e_xsl_nil, e_xsl_cons, q_bind, q_toS, q_seq1, q_seq2, q_seq3, q_seq4, q_end1, q_end2, q_tst, q_pick, q_ret1, q_ret2, q_ret3, q_dv1, q_dv2, q_es1, q_es2, q_ea0, q_ea1, q_ea2, q_ea3, q_ec1, line0, line1, line2, line3, line4, line5, line6, line7, line8, q_sk1, q_sk2, q_sk3, q_noX, q_hold1, q_hold2, q_frz1, id, q_goS, q_sv1, q_sv2, q_sv3, q_ub1, q_ub2, q_pv, parS, parS3, Nat.reduceLT, Nat.reduceLeDiff, q_andK, q_orK, q_chnK, q_ite1, q_ite2, q_ite3, q_ite4, q_ite5, decide_eq_true_eq, Bool.not_eq_true', decide_eq_false_iff_not, q_add, q_sub, q_lt, q_le, q_gt, q_ge, q_eqI, q_neI, q_len1, q_len2, q_int1, q_int2, q_min, q_max, q_tup1, q_tup2, q_lst1, q_lst2, q_subL, q_subT, q_slL, q_slT, argE, List.getElem?_cons_zero, List.getElem?_cons_succ, List.getElem?_nil, List.map_cons, List.map_nil, List.replicate, List.nil_append, List.cons_append, List.append_nil, Option.map_some, Option.map_none, if_true, if_false, reduceIte, List.length_cons, List.length_nil, Nat.reduceAdd, Nat.reduceSub, List.mapM_cons, List.mapM_nil, Option.bind_eq_bind, Option.bind_some, Option.pure_def, atI_lit, List.set_cons_zero, List.set_cons_succ, q_as1, q_as2, q_as3, q_as4, q_as5, q_wp0, q_wp1, q_kp0, q_kp1, q_ed0, q_ed1, Bool.false_eq_true, Bool.not_true, Bool.not_false, web0]) (by omega)
      · rintro b hb env ⟨x3, rfl⟩
        have hbn : b < n := by
          rw [List.mem_range'] at hb
          omega
        refine ⟨[some (.fz (webD n ts)), some (.fz (plD ps)), some (.fz (.int (a : Nat))), some (.fz (.int (b : Nat)))], by simp only [e_ev_var, e_ev_cI, e_ev_cS, e_ev_cN, e_ev_cB, e_ev_neg, e_ev_tup, e_ev_lst, e_ev_bin, e_ev_cmp, e_ev_chn, e_ev_and, e_ev_or, e_ev_not, e_ev_ite, e_ev_sub, e_ev_slc, e_ev_rev, e_ev_call, e_ev_bi, e_ev_isi, e_ev_index, e_ev_pop, e_ev_popAt, e_evs_nil, e_evs_cons, e_evAnd_one, e_evAnd_more, e_evOr_one, e_evOr_more, e_evO_no, e_evO_yes, e_evI_seq, e_evI_rng1, e_evI_rng2, e_evI_enm, e_evI_zp, e_xS_asg, e_xS_set, e_xS_par, e_xS_par3, e_xS_exp, e_xS_app, e_xS_ext, e_xS_setIx, e_xS_ret, e_xS_ife, e_xS_pas, e_xS_brk, e_xS_cnt, e_xS_nev, e_xsl_nil, e_xsl_cons, q_bind, q_toS, q_seq1, q_seq2, q_seq3, q_seq4, q_end1, q_end2, q_tst, q_pick, q_ret1, q_ret2, q_ret3, q_dv1, q_dv2, q_es1, q_es2, q_ea0, q_ea1, q_ea2, q_ea3, q_ec1, line0, line1, line2, line3, line4, line5, line6, line7, line8, q_sk1, q_sk2, q_sk3, q_noX, q_hold1, q_hold2, q_frz1, id, q_goS, q_sv1, q_sv2, q_sv3, q_ub1, q_ub2, q_pv, parS, parS3, Nat.reduceLT, Nat.reduceLeDiff, q_andK, q_orK, q_chnK, q_ite1, q_ite2, q_ite3, q_ite4, q_ite5, decide_eq_true_eq, Bool.not_eq_true', decide_eq_false_iff_not, q_add, q_sub, q_lt, q_le, q_gt, q_ge, q_eqI, q_neI, q_len1, q_len2, q_int1, q_int2, q_min, q_max, q_tup1, q_tup2, q_lst1, q_lst2, q_subL, q_subT, q_slL, q_slT, argE, List.getElem?_cons_zero, List.getElem?_cons_succ, List.getElem?_nil, List.map_cons, List.map_nil, List.replicate, List.nil_append, List.cons_append, List.append_nil, Option.map_some, Option.map_none, if_true, if_false, reduceIte, List.length_cons, List.length_nil, Nat.reduceAdd, Nat.reduceSub, List.mapM_cons, List.mapM_nil, Option.bind_eq_bind, Option.bind_some, Option.pure_def, atI_lit, List.set_cons_zero, List.set_cons_succ, q_as1, q_as2, q_as3, q_as4, q_as5, q_wp0, q_wp1, q_kp0, q_kp1, q_ed0, q_ed1, Bool.false_eq_true, Bool.not_true, Bool.not_false], ?_⟩
        unfold sameOf
        by_cases c : at_ ps a = at_ ps b
        · rw [if_pos c]
          simp only [e_ev_var, e_ev_cI, e_ev_cS, e_ev_cN, e_ev_cB, e_ev_neg, e_ev_tup, e_ev_lst, e_ev_bin, e_ev_cmp, e_ev_chn, e_ev_and, e_ev_or, e_ev_not, e_ev_ite, e_ev_sub, e_ev_slc, e_ev_rev, e_ev_call, e_ev_bi, e_ev_isi, e_ev_index, e_ev_pop, e_ev_popAt, e_evs_nil, e_evs_cons, e_evAnd_one, e_evAnd_more, e_evOr_one, e_evOr_more, e_evO_no, e_evO_yes, e_evI_seq, e_evI_rng1, e_evI_rng2, e_evI_enm, e_evI_zp, e_xS_asg, e_xS_set, e_xS_par, e_xS_par3, e_xS_exp, e_xS_app, e_xS_ext, e_xS_setIx, e_xS_ret, e_xS_ife, e_xS_pas, e_xS_brk, e_xS_cnt, e_xS_nev, e_xsl_nil, e_xsl_cons, q_bind, q_toS, q_seq1, q_seq2, q_seq3, q_seq4, q_end1, q_end2, q_tst, q_pick, q_ret1, q_ret2, q_ret3, q_dv1, q_dv2, q_es1, q_es2, q_ea0, q_ea1, q_ea2, q_ea3, q_ec1, line0, line1, line2, line3, line4, line5, line6, line7, line8, q_sk1, q_sk2, q_sk3, q_noX, q_hold1, q_hold2, q_frz1, id, q_goS, q_sv1, q_sv2, q_sv3, q_ub1, q_ub2, q_pv, parS, parS3, Nat.reduceLT, Nat.reduceLeDiff, q_andK, q_orK, q_chnK, q_ite1, q_ite2, q_ite3, q_ite4, q_ite5, decide_eq_true_eq, Bool.not_eq_true', decide_eq_false_iff_not, q_add, q_sub, q_lt, q_le, q_gt, q_ge, q_eqI, q_neI, q_len1, q_len2, q_int1, q_int2, q_min, q_max, q_tup1, q_tup2, q_lst1, q_lst2, q_subL, q_subT, q_slL, q_slT, argE, List.getElem?_cons_zero, List.getElem?_cons_succ, List.getElem?_nil, List.map_cons, List.map_nil, List.replicate, List.nil_append, List.cons_append, List.append_nil, Option.map_some, Option.map_none, if_true, if_false, reduceIte, List.length_cons, List.length_nil, Nat.reduceAdd, Nat.reduceSub, List.mapM_cons, List.mapM_nil, Option.bind_eq_bind, Option.bind_some, Option.pure_def, atI_lit, List.set_cons_zero, List.set_cons_succ, q_as1, q_as2, q_as3, q_as4, q_as5, q_wp0, q_wp1, q_kp0, q_kp1, q_ed0, q_ed1, Bool.false_eq_true, Bool.not_true, Bool.not_false, pl_at' o han, pl_at' o hbn, eq_pt, c]
        · rw [if_neg c]
          refine ⟨[some (.fz (webD n ts)), some (.fz (plD ps)), some (.fz (.int (a : Nat))), some (.fz (.int (b : Nat)))], ?_, _, rfl⟩
          simp only [e_ev_var, e_ev_cI, e_ev_cS, e_ev_cN, e_ev_cB, e_ev_neg, e_ev_tup, e_ev_lst, e_ev_bin, e_ev_cmp, e_ev_chn, e_ev_and, e_ev_or, e_ev_not, e_ev_ite, e_ev_sub, e_ev_slc, e_ev_rev, e_ev_call, e_ev_bi, e_ev_isi, e_ev_index, e_ev_pop, e_ev_popAt, e_evs_nil, e_evs_cons, e_evAnd_one, e_evAnd_more, e_evOr_one, e_evOr_more, e_evO_no, e_evO_yes, e_evI_seq, e_evI_rng1, e_evI_rng2, e_evI_enm, e_evI_zp, e_xS_asg, e_xS_set, e_xS_par, e_xS_par3, e_xS_exp, e_xS_app, e_xS_ext, e_xS_setIx, e_xS_ret, e_xS_ife, e_xS_pas, e_xS_brk, e_xS_cnt, e_xS_nev, e_xsl_nil, e_xsl_cons, q_bind, q_toS, q_seq1, q_seq2, q_seq3, q_seq4, q_end1, q_end2, q_tst, q_pick, q_ret1, q_ret2, q_ret3, q_dv1, q_dv2, q_es1, q_es2, q_ea0, q_ea1, q_ea2, q_ea3, q_ec1, line0, line1, line2, line3, line4, line5, line6, line7, line8, q_sk1, q_sk2, q_sk3, q_noX, q_hold1, q_hold2, q_frz1, id, q_goS, q_sv1, q_sv2, q_sv3, q_ub1, q_ub2, q_pv, parS, parS3, Nat.reduceLT, Nat.reduceLeDiff, q_andK, q_orK, q_chnK, q_ite1, q_ite2, q_ite3, q_ite4, q_ite5, decide_eq_true_eq, Bool.not_eq_true', decide_eq_false_iff_not, q_add, q_sub, q_lt, q_le, q_gt, q_ge, q_eqI, q_neI, q_len1, q_len2, q_int1, q_int2, q_min, q_max, q_tup1, q_tup2, q_lst1, q_lst2, q_subL, q_subT, q_slL, q_slT, argE, List.getElem?_cons_zero, List.getElem?_cons_succ, List.getElem?_nil, List.map_cons, List.map_nil, List.replicate, List.nil_append, List.cons_append, List.append_nil, Option.map_some, Option.map_none, if_true, if_false, reduceIte, List.length_cons, List.length_nil, Nat.reduceAdd, Nat.reduceSub, List.mapM_cons, List.mapM_nil, Option.bind_eq_bind, Option.bind_some, Option.pure_def, atI_lit, List.set_cons_zero, List.set_cons_succ, q_as1, q_as2, q_as3, q_as4, q_as5, q_wp0, q_wp1, q_kp0, q_kp1, q_ed0, q_ed1, Bool.false_eq_true, Bool.not_true, Bool.not_false, pl_at' o han, pl_at' o hbn, eq_pt, c]
  have H1 := H (fnAt tab k)
  have e : sameAll n ps = (List.range n).findSome? (sameIn n ps) := rfl
  rw [← e] at H1
  have goal : ∀ fn : Fns, (match sameAll n ps with
      | some v => xS fn (.for_ (.nm 2) (.rng1 (.sub (.var 0) (.cI 0))) (.cons (.for_ (.nm 3) (.rng2 (.bin .add (.var 2) (.cI 1)) (.sub (.var 0) (.cI 0))) (.cons (.ife (.cmp .eq (.sub (.var 1) (.var 2)) (.sub (.var 1) (.var 3))) (.cons (.ret (.tup (.cons (.cS "same") (.cons (.var 2) (.cons (.var 3) .nil))))) .nil) .nil) .nil)) .nil)) [some (.fz (webD n ts)), some (.fz (plD ps)), none, none] w = .rt v w
      | none => ∃ e2, xS fn (.for_ (.nm 2) (.rng1 (.sub (.var 0) (.cI 0))) (.cons (.for_ (.nm 3) (.rng2 (.bin .add (.var 2) (.cI 1)) (.sub (.var 0) (.cI 0))) (.cons (.ife (.cmp .eq (.sub (.var 1) (.var 2)) (.sub (.var 1) (.var 3))) (.cons (.ret (.tup (.cons (.cS "same") (.cons (.var 2) (.cons (.var 3) .nil))))) .nil) .nil) .nil)) .nil)) [some (.fz (webD n ts)), some (.fz (plD ps)), none, none] w = .nx e2 w ∧ ∃ x2 x3 : Option EV, e2 = [some (.fz (webD n ts)), some (.fz (plD ps)), x2, x3]) →
      endS (xsl fn b_first_same (argE 4 [.fz (webD n ts), .fz (plD ps)]) w) = .ok (noneD (sameAll n ps)) w := by
    intro fn h
    cases q : sameAll n ps with
    | some v =>
      rw [q] at h
      simp only [b_first_same, e_ev_var, e_ev_cI, e_ev_cS, e_ev_cN, e_ev_cB, e_ev_neg, e_ev_tup, e_ev_lst, e_ev_bin, e_ev_cmp, e_ev_chn, e_ev_and, e_ev_or, e_ev_not, e_ev_ite, e_ev_sub, e_ev_slc, e_ev_rev, e_ev_call, e_ev_bi, e_ev_isi, e_ev_index, e_ev_pop, e_ev_popAt, e_evs_nil, e_evs_cons, e_evAnd_one, e_evAnd_more, e_evOr_one, e_evOr_more, e_evO_no, e_evO_yes, e_evI_seq, e_evI_rng1, e_evI_rng2, e_evI_enm, e_evI_zp, e_xS_asg, e_xS_set, e_xS_par, e_xS_par3, e_xS_exp, e_xS_app, e_xS_ext, e_xS_setIx, e_xS_ret, e_xS_ife, e_xS_pas, e_xS_brk, e_xS_cnt, e_xS_nev, e_xsl_nil, e_xsl_cons, q_bind, q_toS, q_seq1, q_seq2, q_seq3, q_seq4, q_end1, q_end2, q_tst, q_pick, q_ret1, q_ret2, q_ret3, q_dv1, q_dv2, q_es1, q_es2, q_ea0, q_ea1, q_ea2, q_ea3, q_ec1, line0, line1, line2, line3, line4, line5, line6, line7, line8, q_sk1, q_sk2, q_sk3, q_noX, q_hold1, q_hold2, q_frz1, id, q_goS, q_sv1, q_sv2, q_sv3, q_ub1, q_ub2, q_pv, parS, parS3, Nat.reduceLT, Nat.reduceLeDiff, q_andK, q_orK, q_chnK, q_ite1, q_ite2, q_ite3, q_ite4, q_ite5, decide_eq_true_eq, Bool.not_eq_true', decide_eq_false_iff_not, q_add, q_sub, q_lt, q_le, q_gt, q_ge, q_eqI, q_neI, q_len1, q_len2, q_int1, q_int2, q_min, q_max, q_tup1, q_tup2, q_lst1, q_lst2, q_subL, q_subT, q_slL, q_slT, argE, List.getElem?_cons_zero, List.getElem?_cons_succ, List.getElem?_nil, List.map_cons, List.map_nil, List.replicate, List.nil_append, List.cons_append, List.append_nil, Option.map_some, Option.map_none, if_true, if_false, reduceIte, List.length_cons, List.length_nil, Nat.reduceAdd, Nat.reduceSub, List.mapM_cons, List.mapM_nil, Option.bind_eq_bind, Option.bind_some, Option.pure_def, atI_lit, List.set_cons_zero, List.set_cons_succ, q_as1, q_as2, q_as3, q_as4, q_as5, q_wp0, q_wp1, q_kp0, q_kp1, q_ed0, q_ed1, Bool.false_eq_true, Bool.not_true, Bool.not_false, h, noneD]
    | none =>
      rw [q] at h
      obtain ⟨e2, h1, x2, x3, rfl⟩ := h
      simp only [b_first_same, e_ev_var, e_ev_cI, e_ev_cS, e_ev_cN, e_ev_cB, e_ev_neg, e_ev_tup, e_ev_lst, e_ev_bin, e_ev_cmp, e_ev_chn, e_ev_and, e_ev_or, e_ev_not, e_ev_ite, e_ev_sub, e_ev_slc, e_ev_rev, e_ev_call, e_ev_bi, e_ev_isi, e_ev_index, e_ev_pop, e_ev_popAt, e_evs_nil, e_evs_cons, e_evAnd_one, e_evAnd_more, e_evOr_one, e_evOr_more, e_evO_no, e_evO_yes, e_evI_seq, e_evI_rng1, e_evI_rng2, e_evI_enm, e_evI_zp, e_xS_asg, e_xS_set, e_xS_par, e_xS_par3, e_xS_exp, e_xS_app, e_xS_ext, e_xS_setIx, e_xS_ret, e_xS_ife, e_xS_pas, e_xS_brk, e_xS_cnt, e_xS_nev, e_xsl_nil, e_xsl_cons, q_bind, q_toS, q_seq1, q_seq2, q_seq3, q_seq4, q_end1, q_end2, q_tst, q_pick, q_ret1, q_ret2, q_ret3, q_dv1, q_dv2, q_es1, q_es2, q_ea0, q_ea1, q_ea2, q_ea3, q_ec1, line0, line1, line2, line3, line4, line5, line6, line7, line8, q_sk1, q_sk2, q_sk3, q_noX, q_hold1, q_hold2, q_frz1, id, q_goS, q_sv1, q_sv2, q_sv3, q_ub1, q_ub2, q_pv, parS, parS3, Nat.reduceLT, Nat.reduceLeDiff, q_andK, q_orK, q_chnK, q_ite1, q_ite2, q_ite3, q_ite4, q_ite5, decide_eq_true_eq, Bool.not_eq_true', decide_eq_false_iff_not, q_add, q_sub, q_lt, q_le, q_gt, q_ge, q_eqI, q_neI, q_len1, q_len2, q_int1, q_int2, q_min, q_max, q_tup1, q_tup2, q_lst1, q_lst2, q_subL, q_subT, q_slL, q_slT, argE, List.getElem?_cons_zero, List.getElem?_cons_succ, List.getElem?_nil, List.map_cons, List.map_nil, List.replicate, List.nil_append, List.cons_append, List.append_nil, Option.map_some, Option.map_none, if_true, if_false, reduceIte, List.length_cons, List.length_nil, Nat.reduceAdd, Nat.reduceSub, List.mapM_cons, List.mapM_nil, Option.bind_eq_bind, Option.bind_some, Option.pure_def, atI_lit, List.set_cons_zero, List.set_cons_succ, q_as1, q_as2, q_as3, q_as4, q_as5, q_wp0, q_wp1, q_kp0, q_kp1, q_ed0, q_ed1, Bool.false_eq_true, Bool.not_true, Bool.not_false, h1, noneD]
  exact goal _ H1
theorem m_first_on (k : Nat) (w : Wd) {n : Nat} {ts : List Tie} {ps : List Pt} (o : Ok n ts ps) :
    fnAt tab (k + 3) 6 [.fz (webD n ts), .fz (plD ps)] w = .ok (noneD (onAll n ts ps)) w := by
  rw [fnAt_txt t_first_on (by decide) (k + 2) _ w rfl]
  have n9 := o.n9
  have H : ∀ fn : Fns, fn = fnAt tab (k + 2) → match (List.range n).findSome? (onIn ts ps) with
      | some v => xS fn (.for_ (.nm 2) (.rng1 (.sub (.var 0) (.cI 0))) (.cons (.for_ (.tp (.cons (.nm 3) (.cons (.nm 4) .nil))) (.seq (.sub (.var 0) (.cI 1))) (.cons (.ife (.and (.cons (.cmp .notin (.var 2) (.tup (.cons (.var 3) (.cons (.var 4) .nil)))) (.cons (.call 2 (.cons (.sub (.var 1) (.var 3)) (.cons (.sub (.var 1) (.var 4)) (.cons (.sub (.var 1) (.var 2)) .nil)))) .nil))) (.cons (.ret (.tup (.cons (.cS "on") (.cons (.var 2) (.cons (.var 3) (.cons (.var 4) .nil)))))) .nil) .nil) .nil)) .nil)) [some (.fz (webD n ts)), some (.fz (plD ps)), none, none, none] w = .rt v w
      | none => ∃ e2, xS fn (.for_ (.nm 2) (.rng1 (.sub (.var 0) (.cI 0))) (.cons (.for_ (.tp (.cons (.nm 3) (.cons (.nm 4) .nil))) (.seq (.sub (.var 0) (.cI 1))) (.cons (.ife (.and (.cons (.cmp .notin (.var 2) (.tup (.cons (.var 3) (.cons (.var 4) .nil)))) (.cons (.call 2 (.cons (.sub (.var 1) (.var 3)) (.cons (.sub (.var 1) (.var 4)) (.cons (.sub (.var 1) (.var 2)) .nil)))) .nil))) (.cons (.ret (.tup (.cons (.cS "on") (.cons (.var 2) (.cons (.var 3) (.cons (.var 4) .nil)))))) .nil) .nil) .nil)) .nil)) [some (.fz (webD n ts)), some (.fz (plD ps)), none, none, none] w = .nx e2 w ∧ ∃ x2 x3 x4 : Option EV, e2 = [some (.fz (webD n ts)), some (.fz (plD ps)), x2, x3, x4] := by
    intro fn hfn
    have hB : ∀ p q r, SmP p → SmP q → SmP r → fn 2 [.fz (pt p), .fz (pt q), .fz (pt r)] w = .ok (.fz (.bool (betwZ p q r))) w := fun p q r hp hq hr => by rw [hfn]; exact m_is_between k w p q r hp hq hr
    clear hfn
    refine xS_findM (g := fun i : Nat => .int (i : Nat)) (r := []) (e1 := [some (.fz (webD n ts)), some (.fz (plD ps)), none, none, none]) (J := fun e => ∃ x2 x3 x4 : Option EV, e = [some (.fz (webD n ts)), some (.fz (plD ps)), x2, x3, x4]) (List.range n) ?_ ⟨_, _, _, rfl⟩ ?_
    · rw [← rng0_map]
      exact evI_rng1N (by simp only [e_ev_var, e_ev_cI, e_ev_cS, e_ev_cN, e_ev_cB, e_ev_neg, e_ev_tup, e_ev_lst, e_ev_bin, e_ev_cmp, e_ev_chn, e_ev_and, e_ev_or, e_ev_not, e_ev_ite, e_ev_sub, e_ev_slc, e_ev_rev, e_ev_call, e_ev_bi, e_ev_isi, e_ev_index, e_ev_pop, e_ev_popAt, e_evs_nil, e_evs_cons, e_evAnd_one, e_evAnd_more, e_evOr_one, e_evOr_more, e_evO_no, e_evO_yes, e_evI_seq, e_evI_rng1, e_evI_rng2, e_evI_enm, e_evI_zp, e_xS_asg, e_xS_set, e_xS_par, e_xS_par3, e_xS_exp, e_xS_app, e_xS_ext, e_xS_setIx, e_xS_ret, e_xS_ife, e_xS_pas, e_xS_brk, e_xS_cnt, e_xS_nev, e_xsl_nil, e_xsl_cons, q_bind, q_toS, q_seq1, q_seq2, q_seq3, q_seq4, q_end1, q_end2, q_tst, q_pick, q_ret1, q_ret2, q_ret3, q_dv1, q_dv2, q_es1, q_es2, q_ea0, q_ea1, q_ea2, q_ea3, q_ec1, line0, line1, line2, line3, line4, line5, line6, line7, line8, q_sk1, q_sk2, q_sk3, q_noX, q_hold1, q_hold2, q_frz1, id, q_goS, q_sv1, q_sv2, q_sv3, q_ub1, q_ub2, q_pv, parS, parS3, Nat.reduceLT, Nat.reduceLeDiff, q_andK, q_orK, q_chnK, q_ite1, q_ite2, q_ite3, q_ite4, q_ite5, decide_eq_true_eq, Bool.not_eq_true', decide_eq_false_iff_not, q_add, q_sub, q_lt, q_le, q_gt, q_ge, q_eqI, q_neI, q_len1, q_len2, q_int1, q_int2, q_min, q_max, q_tup1, q_tup2, q_lst1, q_lst2, q_subL, q_subT, q_slL, q_slT, argE, List.getElem?_cons_zero, List.getElem?_cons_succ, List.getElem?_nil, List.map_cons, List.map_nil, List.replicate, List.nil_append, List.cons_append, List.append_nil, Option.map_some, Option.map_none, if_true, if_false, reduceIte, List.length_cons, List.length_nil, Nat.reduceAdd, Nat.reduceSub, List.mapM_cons, List.mapM_nil, Option.bind_eq_bind, Option.bind_some, Option.pure_def, atI_lit, List.set_cons_zero, List.set_cons_succ, q_as1, q_as2, q_as3, q_as4, q_as5, q_wp0, q_wp1, q_kp0, q_kp1, q_ed0, q_ed1, Bool.false_eq_true, Bool.not_true, Bool.not_false, web0]) (by omega)
    · rintro a ha env ⟨x2, x3, x4, rfl⟩
      have han : a < n := by simpa using ha
      refine ⟨[some (.fz (webD n ts)), some (.fz (plD ps)), some (.fz (.int (a : Nat))), x3, x4], by simp only [e_ev_var, e_ev_cI, e_ev_cS, e_ev_cN, e_ev_cB, e_ev_neg, e_ev_tup, e_ev_lst, e_ev_bin, e_ev_cmp, e_ev_chn, e_ev_and, e_ev_or, e_ev_not, e_ev_ite, e_ev_sub, e_ev_slc, e_ev_rev, e_ev_call, e_ev_bi, e_ev_isi, e_ev_index, e_ev_pop, e_ev_popAt, e_evs_nil, e_evs_cons, e_evAnd_one, e_evAnd_more, e_evOr_one, e_evOr_more, e_evO_no, e_evO_yes, e_evI_seq, e_evI_rng1, e_evI_rng2, e_evI_enm, e_evI_zp, e_xS_asg, e_xS_set, e_xS_par, e_xS_par3, e_xS_exp, e_xS_app, e_xS_ext, e_xS_setIx, e_xS_ret, e_xS_ife, e_xS_pas, e_xS_brk, e_xS_cnt, e_xS_nev, e_xsl_nil, e_xsl_cons, q_bind, q_toS, q_seq1, q_seq2, q_seq3, q_seq4, q_end1, q_end2, q_tst, q_pick, q_ret1, q_ret2, q_ret3, q_dv1, q_dv2, q_es1, q_es2, q_ea0, q_ea1, q_ea2, q_ea3, q_ec1, line0, line1, line2, line3, line4, line5, line6, line7, line8, q_sk1, q_sk2, q_sk3, q_noX, q_hold1, q_hold2, q_frz1, id, q_goS, q_sv1, q_sv2, q_sv3, q_ub1, q_ub2, q_pv, parS, parS3, Nat.reduceLT, Nat.reduceLeDiff, q_andK, q_orK, q_chnK, q_ite1, q_ite2, q_ite3, q_ite4, q_ite5, decide_eq_true_eq, Bool.not_eq_true', decide_eq_false_iff_not, q_add, q_sub, q_lt, q_le, q_gt, q_ge, q_eqI, q_neI, q_len1, q_len2, q_int1, q_int2, q_min, q_max, q_tup1, q_tup2, q_lst1, q_lst2, q_subL, q_subT, q_slL, q_slT, argE, List.getElem?_cons_zero, List.getElem?_cons_succ, List.getElem?_nil, List.map_cons, List.map_nil, List.replicate, List.nil_append, List.cons_append, List.append_nil, Option.map_some, Option.map_none, if_true, if_false, reduceIte, List.length_cons, List.length_nil, Nat.reduceAdd, Nat.reduceSub, List.mapM_cons, List.mapM_nil, Option.bind_eq_bind, Option.bind_some, Option.pure_def, atI_lit, List.set_cons_zero, List.set_cons_succ, q_as1, q_as2, q_as3, q_as4, q_as5, q_wp0, q_wp1, q_kp0, q_kp1, q_ed0, q_ed1, Bool.false_eq_true, Bool.not_true, Bool.not_false], ?_⟩
      have I := xS_findM (fn := fn) (w := w) (env := [some (.fz (webD n ts)), some (.fz (plD ps)), some (.fz (.int (a : Nat))), x3, x4]) (tg := (.tp (.cons (.nm 3) (.cons (.nm 4) .nil)))) (it := (.seq (.sub (.var 0) (.cI 1)))) (b := (.cons (.ife (.and (.cons (.cmp .notin (.var 2) (.tup (.cons (.var 3) (.cons (.var 4) .nil)))) (.cons (.call 2 (.cons (.sub (.var 1) (.var 3)) (.cons (.sub (.var 1) (.var 4)) (.cons (.sub (.var 1) (.var 2)) .nil)))) .nil))) (.cons (.ret (.tup (.cons (.cS "on") (.cons (.var 2) (.cons (.var 3) (.cons (.var 4) .nil)))))) .nil) .nil) .nil))
        (g := tieD) (r := []) (e1 := [some (.fz (webD n ts)), some (.fz (plD ps)), some (.fz (.int (a : Nat))), x3, x4]) (f := onOf ps a) (J := fun e => ∃ x3 x4 : Option EV, e = [some (.fz (webD n ts)), some (.fz (plD ps)), some (.fz (.int (a : Nat))), x3, x4]) ts ?_ ⟨_, _, rfl⟩ ?_
      · unfold onIn
        cases q : ts.findSome? (onOf ps a) with
        | some v =>
          rw [q] at I
          exact xsl_rt I
        | none =>
          rw [q] at I
          obtain ⟨e2, h1, x3', x4', h2⟩ := I
          exact ⟨e2, by rw [xsl_nx h1, e_xsl_nil], _, _, _, h2⟩
      · simp only [e_ev_var, e_ev_cI, e_ev_cS, e_ev_cN, e_ev_cB, e_ev_neg, e_ev_tup, e_ev_lst, e_ev_bin, e_ev_cmp, e_ev_chn, e_ev_and, e_ev_or, e_ev_not, e_ev_ite, e_ev_sub, e_ev_slc, e_ev_rev, e_ev_call, e_ev_bi, e_ev_isi, e_ev_index, e_ev_pop, e_ev_popAt, e_evs_nil, e_evs_cons, e_evAnd_one, e_evAnd_more, e_evOr_one, e_evOr_more, e_evO_no, e_evO_yes, e_evI_seq, e_evI_rng1, e_evI_rng2, e_evI_enm, e_evI_zp, e_xS_asg, e_xS_set, e_xS_par, e_xS_par3, e_xS_exp, e_xS_app, e_xS_ext, e_xS_setIx, e_xS_ret, e_xS_ife, e_xS_pas, e_xS_brk, e_xS_cnt, e_xS_nev, e_xsl_nil, e_xsl_cons, q_bind, q_toS, q_seq1, q_seq2, q_seq3, q_seq4, q_end1, q_end2, q_tst, q_pick, q_ret1, q_ret2, q_ret3, q_dv1, q_dv2, q_es1, q_es2, q_ea0, q_ea1, q_ea2, q_ea3, q_ec1, line0, line1, line2, line3, line4, line5, line6, line7, line8, q_sk1, q_sk2, q_sk3, q_noX, q_hold1, q_hold2, q_frz1, id, q_goS, q_sv1, q_sv2, q_sv3, q_ub1, q_ub2, q_pv, parS, parS3, Nat.reduceLT, Nat.reduceLeDiff, q_andK, q_orK, q_chnK, q_ite1, q_ite2, q_ite3, q_ite4, q_ite5, decide_eq_true_eq, Bool.not_eq_true', decide_eq_false_iff_not, q_add, q_sub, q_lt, q_le, q_gt, q_ge, q_eqI, q_neI, q_len1, q_len2, q_int1, q_int2, q_min, q_max, q_tup1, q_tup2, q_lst1, q_lst2, q_subL, q_subT, q_slL, q_slT, argE, List.getElem?_cons_zero, List.getElem?_cons_succ, List.getElem?_nil, List.map_cons, List.map_nil, List.replicate, List.nil_append, List.cons_append, List.append_nil, Option.map_some, Option.map_none, if_true, if_false, reduceIte, List.length_cons, List.length_nil, Nat.reduceAdd, Nat.reduceSub, List.mapM_cons, List.mapM_nil, Option.bind_eq_bind, Option.bind_some, Option.pure_def, atI_lit, List.set_cons_zero, List.set_cons_succ, q_as1, q_as2, q_as3, q_as4, q_as5, q_wp0, q_wp1, q_kp0, q_kp1, q_ed0, q_ed1, Bool.false_eq_true, Bool.not_true, Bool.not_false, web1']
      · rintro t ht env ⟨x3, x4, rfl⟩
        have htt := o.tie t ht
        refine ⟨[some (.fz (webD n ts)), some (.fz (plD ps)), some (.fz (.int (a : Nat))), some (.fz (.int (t.1 : Nat))), some (.fz (.int (t.2 : Nat)))], by simp only [tieD, e_ev_var, e_ev_cI, e_ev_cS, e_ev_cN, e_ev_cB, e_ev_neg, e_ev_tup, e_ev_lst, e_ev_bin, e_ev_cmp, e_ev_chn, e_ev_and, e_ev_or, e_ev_not, e_ev_ite, e_ev_sub, e_ev_slc, e_ev_rev, e_ev_call, e_ev_bi, e_ev_isi, e_ev_index, e_ev_pop, e_ev_popAt, e_evs_nil, e_evs_cons, e_evAnd_one, e_evAnd_more, e_evOr_one, e_evOr_more, e_evO_no, e_evO_yes, e_evI_seq, e_evI_rng1, e_evI_rng2, e_evI_enm, e_evI_zp, e_xS_asg, e_xS_set, e_xS_par, e_xS_par3, e_xS_exp, e_xS_app, e_xS_ext, e_xS_setIx, e_xS_ret, e_xS_ife, e_xS_pas, e_xS_brk, e_xS_cnt, e_xS_nev, e_xsl_nil, e_xsl_cons, q_bind, q_toS, q_seq1, q_seq2, q_seq3, q_seq4, q_end1, q_end2, q_tst, q_pick, q_ret1, q_ret2, q_ret3, q_dv1, q_dv2, q_es1, q_es2, q_ea0, q_ea1, q_ea2, q_ea3, q_ec1, line0, line1, line2, line3, line4, line5, line6, line7, line8, q_sk1, q_sk2, q_sk3, q_noX, q_hold1, q_hold2, q_frz1, id, q_goS, q_sv1, q_sv2, q_sv3, q_ub1, q_ub2, q_pv, parS, parS3, Nat.reduceLT, Nat.reduceLeDiff, q_andK, q_orK, q_chnK, q_ite1, q_ite2, q_ite3, q_ite4, q_ite5, decide_eq_true_eq, Bool.not_eq_true', decide_eq_false_iff_not, q_add, q_sub, q_lt, q_le, q_gt, q_ge, q_eqI, q_neI, q_len1, q_len2, q_int1, q_int2, q_min, q_max, q_tup1, q_tup2, q_lst1, q_lst2, q_subL, q_subT, q_slL, q_slT, argE, List.getElem?_cons_zero, List.getElem?_cons_succ, List.getElem?_nil, List.map_cons, List.map_nil, List.replicate, List.nil_append, List.cons_append, List.append_nil, Option.map_some, Option.map_none, if_true, if_false, reduceIte, List.length_cons, List.length_nil, Nat.reduceAdd, Nat.reduceSub, List.mapM_cons, List.mapM_nil, Option.bind_eq_bind, Option.bind_some, Option.pure_def, atI_lit, List.set_cons_zero, List.set_cons_succ, q_as1, q_as2, q_as3, q_as4, q_as5, q_wp0, q_wp1, q_kp0, q_kp1, q_ed0, q_ed1, Bool.false_eq_true, Bool.not_true, Bool.not_false], ?_⟩
        have hb := hB _ _ _ (o.at htt.1) (o.at htt.2) (o.at han)
        unfold onOf
        by_cases c : a ≠ t.1 ∧ a ≠ t.2
        · cases d : betwZ (at_ ps t.1) (at_ ps t.2) (at_ ps a) with
          | true =>
            rw [if_pos ⟨c, rfl⟩]
            rw [d] at hb
            simp only [e_ev_var, e_ev_cI, e_ev_cS, e_ev_cN, e_ev_cB, e_ev_neg, e_ev_tup, e_ev_lst, e_ev_bin, e_ev_cmp, e_ev_chn, e_ev_and, e_ev_or, e_ev_not, e_ev_ite, e_ev_sub, e_ev_slc, e_ev_rev, e_ev_call, e_ev_bi, e_ev_isi, e_ev_index, e_ev_pop, e_ev_popAt, e_evs_nil, e_evs_cons, e_evAnd_one, e_evAnd_more, e_evOr_one, e_evOr_more, e_evO_no, e_evO_yes, e_evI_seq, e_evI_rng1, e_evI_rng2, e_evI_enm, e_evI_zp, e_xS_asg, e_xS_set, e_xS_par, e_xS_par3, e_xS_exp, e_xS_app, e_xS_ext, e_xS_setIx, e_xS_ret, e_xS_ife, e_xS_pas, e_xS_brk, e_xS_cnt, e_xS_nev, e_xsl_nil, e_xsl_cons, q_bind, q_toS, q_seq1, q_seq2, q_seq3, q_seq4, q_end1, q_end2, q_tst, q_pick, q_ret1, q_ret2, q_ret3, q_dv1, q_dv2, q_es1, q_es2, q_ea0, q_ea1, q_ea2, q_ea3, q_ec1, line0, line1, line2, line3, line4, line5, line6, line7, line8, q_sk1, q_sk2, q_sk3, q_noX, q_hold1, q_hold2, q_frz1, id, q_goS, q_sv1, q_sv2, q_sv3, q_ub1, q_ub2, q_pv, parS, parS3, Nat.reduceLT, Nat.reduceLeDiff, q_andK, q_orK, q_chnK, q_ite1, q_ite2, q_ite3, q_ite4, q_ite5, decide_eq_true_eq, Bool.not_eq_true', decide_eq_false_iff_not, q_add, q_sub, q_lt, q_le, q_gt, q_ge, q_eqI, q_neI, q_len1, q_len2, q_int1, q_int2, q_min, q_max, q_tup1, q_tup2, q_lst1, q_lst2, q_subL, q_subT, q_slL, q_slT, argE, List.getElem?_cons_zero, List.getElem?_cons_succ, List.getElem?_nil, List.map_cons, List.map_nil, List.replicate, List.nil_append, List.cons_append, List.append_nil, Option.map_some, Option.map_none, if_true, if_false, reduceIte, List.length_cons, List.length_nil, Nat.reduceAdd, Nat.reduceSub, List.mapM_cons, List.mapM_nil, Option.bind_eq_bind, Option.bind_some, Option.pure_def, atI_lit, List.set_cons_zero, List.set_cons_succ, q_as1, q_as2, q_as3, q_as4, q_as5, q_wp0, q_wp1, q_kp0, q_kp1, q_ed0, q_ed1, Bool.false_eq_true, Bool.not_true, Bool.not_false, notin2, pl_at' o han, pl_at' o htt.1, pl_at' o htt.2, hb, decide_eq_true c]
          | false =>
            rw [if_neg (by simp)]
            rw [d] at hb
            refine ⟨[some (.fz (webD n ts)), some (.fz (plD ps)), some (.fz (.int (a : Nat))), some (.fz (.int (t.1 : Nat))), some (.fz (.int (t.2 : Nat)))], ?_, _, _, rfl⟩
            simp only [e_ev_var, e_ev_cI, e_ev_cS, e_ev_cN, e_ev_cB, e_ev_neg, e_ev_tup, e_ev_lst, e_ev_bin, e_ev_cmp, e_ev_chn, e_ev_and, e_ev_or, e_ev_not, e_ev_ite, e_ev_sub, e_ev_slc, e_ev_rev, e_ev_call, e_ev_bi, e_ev_isi, e_ev_index, e_ev_pop, e_ev_popAt, e_evs_nil, e_evs_cons, e_evAnd_one, e_evAnd_more, e_evOr_one, e_evOr_more, e_evO_no, e_evO_yes, e_evI_seq, e_evI_rng1, e_evI_rng2, e_evI_enm, e_evI_zp, e_xS_asg, e_xS_set, e_xS_par, e_xS_par3, e_xS_exp, e_xS_app, e_xS_ext, e_xS_setIx, e_xS_ret, e_xS_ife, e_xS_pas, e_xS_brk, e_xS_cnt, e_xS_nev, e_xsl_nil, e_xsl_cons, q_bind, q_toS, q_seq1, q_seq2, q_seq3, q_seq4, q_end1, q_end2, q_tst, q_pick, q_ret1, q_ret2, q_ret3, q_dv1, q_dv2, q_es1, q_es2, q_ea0, q_ea1, q_ea2, q_ea3, q_ec1, line0, line1, line2, line3, line4, line5, line6, line7, line8, q_sk1, q_sk2, q_sk3, q_noX, q_hold1, q_hold2, q_frz1, id, q_goS, q_sv1, q_sv2, q_sv3, q_ub1, q_ub2, q_pv, parS, parS3, Nat.reduceLT, Nat.reduceLeDiff, q_andK, q_orK, q_chnK, q_ite1, q_ite2, q_ite3, q_ite4, q_ite5, decide_eq_true_eq, Bool.not_eq_true', decide_eq_false_iff_not, q_add, q_sub, q_lt, q_le, q_gt, q_ge, q_eqI, q_neI, q_len1, q_len2, q_int1, q_int2, q_min, q_max, q_tup1, q_tup2, q_lst1, q_lst2, q_subL, q_subT, q_slL, q_slT, argE, List.getElem?_cons_zero, List.getElem?_cons_succ, List.getElem?_nil, List.map_cons, List.map_nil, List.replicate, List.nil_append, List.cons_append, List.append_nil, Option.map_some, Option.map_none, if_true, if_false, reduceIte, List.length_cons, List.length_nil, Nat.reduceAdd, Nat.reduceSub, List.mapM_cons, List.mapM_nil, Option.bind_eq_bind, Option.bind_some, Option.pure_def, atI_lit, List.set_cons_zero, List.set_cons_succ, q_as1, q_as2, q_as3, q_as4, q_as5, q_wp0, q_wp1, q_kp0, q_kp1, q_ed0, q_ed1, Bool.false_eq_true, Bool.not_true, Bool.not_false, notin2, pl_at' o han, pl_at' o htt.1, pl_at' o htt.2, hb, decide_eq_true c]
        · rw [if_neg (fun h => c h.1)]
          refine ⟨[some (.fz (webD n ts)), some (.fz (plD ps)), some (.fz (.int (a : Nat))), some (.fz (.int (t.1 : Nat))), some (.fz (.int (t.2 : Nat)))], ?_, _, _, rfl⟩
          simp only [e_ev_var, e_ev_cI, e_ev_cS, e_ev_cN, e_ev_cB, e_ev_neg, e_ev_tup, e_ev_lst, e_ev_bin, e_ev_cmp, e_ev_chn, e_ev_and, e_ev_or, e_ev_not, e_ev_ite, e_ev_sub, e_ev_slc, e_ev_rev, e_ev_call, e_ev_bi, e_ev_isi, e_ev_index, e_ev_pop, e_ev_popAt, e_evs_nil, e_evs_cons, e_evAnd_one, e_evAnd_more, e_evOr_one, e_evOr_more, e_evO_no, e_evO_yes, e_evI_seq, e_evI_rng1, e_evI_rng2, e_evI_enm, e_evI_zp, e_xS_asg, e_xS_set, e_xS_par, e_xS_par3, e_xS_exp, e_xS_app, e_xS_ext, e_xS_setIx, e_xS_ret, e_xS_ife, e_xS_pas, e_xS_brk, e_xS_cnt, e_xS_nev, e_xsl_nil, e_xsl_cons, q_bind, q_toS, q_seq1, q_seq2, q_seq3, q_seq4, q_end1, q_end2, q_tst, q_pick, q_ret1, q_ret2, q_ret3, q_dv1, q_dv2, q_es1, q_es2, q_ea0, q_ea1, q_ea2, q_ea3, q_ec1, line0, line1, line2, line3, line4, line5, line6, line7, line8, q_sk1, q_sk2, q_sk3, q_noX, q_hold1, q_hold2, q_frz1, id, q_goS, q_sv1, q_sv2, q_sv3, q_ub1, q_ub2, q_pv, parS, parS3, Nat.reduceLT, Nat.reduceLeDiff, q_andK, q_orK, q_chnK, q_ite1, q_ite2, q_ite3, q_ite4, q_ite5, decide_eq_true_eq, Bool.not_eq_true', decide_eq_false_iff_not, q_add, q_sub, q_lt, q_le, q_gt, q_ge, q_eqI, q_neI, q_len1, q_len2, q_int1, q_int2, q_min, q_max, q_tup1, q_tup2, q_lst1, q_lst2, q_subL, q_subT, q_slL, q_slT, argE, List.getElem?_cons_zero, List.getElem?_cons_succ, List.getElem?_nil, List.map_cons, List.map_nil, List.replicate, List.nil_append, List.cons_append, List.append_nil, Option.map_some, Option.map_none, if_true, if_false, reduceIte, List.length_cons, List.length_nil, Nat.reduceAdd, Nat.reduceSub, List.mapM_cons, List.mapM_nil, Option.bind_eq_bind, Option.bind_some, Option.pure_def, atI_lit, List.set_cons_zero, List.set_cons_succ, q_as1, q_as2, q_as3, q_as4, q_as5, q_wp0, q_wp1, q_kp0, q_kp1, q_ed0, q_ed1, Bool.false_eq_true, Bool.not_true, Bool.not_false, notin2, decide_eq_false c]
  have goal : ∀ fn : Fns, (match onAll n ts ps with
      | some v => xS fn (.for_ (.nm 2) (.rng1 (.sub (.var 0) (.cI 0))) (.cons (.for_ (.tp (.cons (.nm 3) (.cons (.nm 4) .nil))) (.seq (.sub (.var 0) (.cI 1))) (.cons (.ife (.and (.cons (.cmp .notin (.var 2) (.tup (.cons (.var 3) (.cons (.var 4) .nil)))) (.cons (.call 2 (.cons (.sub (.var 1) (.var 3)) (.cons (.sub (.var 1) (.var 4)) (.cons (.sub (.var 1) (.var 2)) .nil)))) .nil))) (.cons (.ret (.tup (.cons (.cS "on") (.cons (.var 2) (.cons (.var 3) (.cons (.var 4) .nil)))))) .nil) .nil) .nil)) .nil)) [some (.fz (webD n ts)), some (.fz (plD ps)), none, none, none] w = .rt v w
      | none => ∃ e2, xS fn (.for_ (.nm 2) (.rng1 (.sub (.var 0) (.cI 0))) (.cons (.for_ (.tp (.cons (.nm 3) (.cons (.nm 4) .nil))) (.seq (.sub (.var 0) (.cI 1))) (.cons (.ife (.and (.cons (.cmp .notin (.var 2) (.tup (.cons (.var 3) (.cons (.var 4) .nil)))) (.cons (.call 2 (.cons (.sub (.var 1) (.var 3)) (.cons (.sub (.var 1) (.var 4)) (.cons (.sub (.var 1) (.var 2)) .nil)))) .nil))) (.cons (.ret (.tup (.cons (.cS "on") (.cons (.var 2) (.cons (.var 3) (.cons (.var 4) .nil)))))) .nil) .nil) .nil)) .nil)) [some (.fz (webD n ts)), some (.fz (plD ps)), none, none, none] w = .nx e2 w ∧ ∃ x2 x3 x4 : Option EV, e2 = [some (.fz (webD n ts)), some (.fz (plD ps)), x2, x3, x4]) →
      endS (xsl fn b_first_on (argE 5 [.fz (webD n ts), .fz (plD ps)]) w) = .ok (noneD (onAll n ts ps)) w := by
    intro fn h
    cases q : onAll n ts ps with
    | some v =>
      rw [q] at h
      simp only [b_first_on, e_ev_var, e_ev_cI, e_ev_cS, e_ev_cN, e_ev_cB, e_ev_neg, e_ev_tup, e_ev_lst, e_ev_bin, e_ev_cmp, e_ev_chn, e_ev_and, e_ev_or, e_ev_not, e_ev_ite, e_ev_sub, e_ev_slc, e_ev_rev, e_ev_call, e_ev_bi, e_ev_isi, e_ev_index, e_ev_pop, e_ev_popAt, e_evs_nil, e_evs_cons, e_evAnd_one, e_evAnd_more, e_evOr_one, e_evOr_more, e_evO_no, e_evO_yes, e_evI_seq, e_evI_rng1, e_evI_rng2, e_evI_enm, e_evI_zp, e_xS_asg, e_xS_set, e_xS_par, e_xS_par3, e_xS_exp, e_xS_app, e_xS_ext, e_xS_setIx, e_xS_ret, e_xS_ife, e_xS_pas, e_xS_brk, e_xS_cnt, e_xS_nev, e_xsl_nil, e_xsl_cons, q_bind, q_toS, q_seq1, q_seq2, q_seq3, q_seq4, q_end1, q_end2, q_tst, q_pick, q_ret1, q_ret2, q_ret3, q_dv1, q_dv2, q_es1, q_es2, q_ea0, q_ea1, q_ea2, q_ea3, q_ec1, line0, line1, line2, line3, line4, line5, line6, line7, line8, q_sk1, q_sk2, q_sk3, q_noX, q_hold1, q_hold2, q_frz1, id, q_goS, q_sv1, q_sv2, q_sv3, q_ub1, q_ub2, q_pv, parS, parS3, Nat.reduceLT, Nat.reduceLeDiff, q_andK, q_orK, q_chnK, q_ite1, q_ite2, q_ite3, q_ite4, q_ite5, decide_eq_true_eq, Bool.not_eq_true', decide_eq_false_iff_not, q_add, q_sub, q_lt, q_le, q_gt, q_ge, q_eqI, q_neI, q_len1, q_len2, q_int1, q_int2, q_min, q_max, q_tup1, q_tup2, q_lst1, q_lst2, q_subL, q_subT, q_slL, q_slT, argE, List.getElem?_cons_zero, List.getElem?_cons_succ, List.getElem?_nil, List.map_cons, List.map_nil, List.replicate, List.nil_append, List.cons_append, List.append_nil, Option.map_some, Option.map_none, if_true, if_false, reduceIte, List.length_cons, List.length_nil, Nat.reduceAdd, Nat.reduceSub, List.mapM_cons, List.mapM_nil, Option.bind_eq_bind, Option.bind_some, Option.pure_def, atI_lit, List.set_cons_zero, List.set_cons_succ, q_as1, q_as2, q_as3, q_as4, q_as5, q_wp0, q_wp1, q_kp0, q_kp1, q_ed0, q_ed1, Bool.false_eq_true, Bool.not_true, Bool.not_false, h, noneD]
    | none =>
      rw [q] at h
      obtain ⟨e2, h1, x2, x3, x4, rfl⟩ := h
      simp only [b_first_on, e_ev_var, e_ev_cI, e_ev_cS, e_ev_cN, e_ev_cB, e_ev_neg, e_ev_tup, e_ev_lst, e_ev_bin, e_ev_cmp, e_ev_chn, e_ev_and, e_ev_or, e_ev_not, e_ev_ite, e_ev_sub, e_ev_slc, e_ev_rev, e_ev_call, e_ev_bi, e_ev_isi, e_ev_index, e_ev_pop, e_ev_popAt, e_evs_nil, e_evs_cons, e_evAnd_one, e_evAnd_more, e_evOr_one, e_evOr_more, e_evO_no, e_evO_yes, e_evI_seq, e_evI_rng1, e_evI_rng2, e_evI_enm, e_evI_zp, e_xS_asg, e_xS_set, e_xS_par, e_xS_par3, e_xS_exp, e_xS_app, e_xS_ext, e_xS_setIx, e_xS_ret, e_xS_ife, e_xS_pas, e_xS_brk, e_xS_cnt, e_xS_nev, e_xsl_nil, e_xsl_cons, q_bind, q_toS, q_seq1, q_seq2, q_seq3, q_seq4, q_end1, q_end2, q_tst, q_pick, q_ret1, q_ret2, q_ret3, q_dv1, q_dv2, q_es1, q_es2, q_ea0, q_ea1, q_ea2, q_ea3, q_ec1, line0, line1, line2, line3, line4, line5, line6, line7, line8, q_sk1, q_sk2, q_sk3, q_noX, q_hold1, q_hold2, q_frz1, id, q_goS, q_sv1, q_sv2, q_sv3, q_ub1, q_ub2, q_pv, parS, parS3, Nat.reduceLT, Nat.reduceLeDiff, q_andK, q_orK, q_chnK, q_ite1, q_ite2, q_ite3, q_ite4, q_ite5, decide_eq_true_eq, Bool.not_eq_true', decide_eq_false_iff_not, q_add, q_sub, q_lt, q_le, q_gt, q_ge, q_eqI, q_neI, q_len1, q_len2, q_int1, q_int2, q_min, q_max, q_tup1, q_tup2, q_lst1, q_lst2, q_subL, q_subT, q_slL, q_slT, argE, List.getElem?_cons_zero, List.getElem?_cons_succ, List.getElem?_nil, List.map_cons, List.map_nil, List.replicate, List.nil_append, List.cons_append, List.append_nil, Option.map_some, Option.map_none, if_true, if_false, reduceIte, List.length_cons, List.length_nil, Nat.reduceAdd, Nat.reduceSub, List.mapM_cons, List.mapM_nil, Option.bind_eq_bind, Option.bind_some, Option.pure_def, atI_lit, List.set_cons_zero, List.set_cons_succ, q_as1, q_as2, q_as3, q_as4, q_as5, q_wp0, q_wp1, q_kp0, q_kp1, q_ed0, q_ed1, Bool.false_eq_true, Bool.not_true, Bool.not_false, h1, noneD]
  exact goal _ (H _ rfl)
end K37

set_option Elab.async false
set_option linter.all false
set_option maxRecDepth 100000
set_option maxHeartbeats 8000000
set_option exponentiation.threshold 1000
set_option autoImplicit false
namespace K37
open PySem PySem.Spec L2 DL
/-! ### pairs -/
def intB : PyData → Bool
  | .int _ => true
  | _ => false
def pairB : PyData → Bool
  | .tuple ds => decide (ds.length = 2) && ds.all intB
  | _ => false
theorem int_not_bool (d : PyData) : (if isiD .int d = true then (!isiD .bool d) else false) = intB d := by cases d <;> rfl
theorem m_is_pair (k : Nat) (w : Wd) (d : PyData) : fnAt tab (k + 1) 1 [.fz d] w = .ok (.fz (.bool (pairB d))) w := by
  rw [fnAt_txt t_is_pair (by decide) k _ w rfl]
  generalize fnAt tab k = fn
  by_cases h : ∃ ds, d = .tuple ds
  · obtain ⟨ds, rfl⟩ := h
    by_cases h2 : ds.length = 2
    · have hL : ev fn (.lc [("one", 1)] (.nm 1) (.seq (.var 0)) .nil (.and (.cons (.isi (.var 1) .int) (.cons (.not (.isi (.var 1) .bool)) .nil)))) [some (.fz (.tuple ds)), none] w = .ok (.lst (ds.map fun d => .bool (intB d))) [some (.fz (.tuple ds)), none] w := by
        have := ev_map (fn := fn) (own := [("one", 1)]) (tg := .nm 1) (it := .seq (.var 0)) (elt := .and (.cons (.isi (.var 1) .int) (.cons (.not (.isi (.var 1) .bool)) .nil))) (env := [some (.fz (.tuple ds)), none]) (e1 := [some (.fz (.tuple ds)), none]) (w := w) (k := ⟨ds, none, []⟩) (fun d => .bool (intB d)) (by simp only [e_ev_var, e_ev_cI, e_ev_cS, e_ev_cN, e_ev_cB, e_ev_neg, e_ev_tup, e_ev_lst, e_ev_bin, e_ev_cmp, e_ev_chn, e_ev_and, e_ev_or, e_ev_not, e_ev_ite, e_ev_sub, e_ev_slc, e_ev_rev, e_ev_call, e_ev_bi, e_ev_isi, e_ev_index, e_ev_pop, e_ev_popAt, e_evs_nil, e_evs_cons, e_evAnd_one, e_evAnd_more, e_evOr_one, e_evOr_more, e_evO_no, e_evO_yes, e_evI_seq, e_evI_rng1, e_evI_rng2, e_evI_enm, e_evI_zp, e_xS_asg, e_xS_set, e_xS_par, e_xS_par3, e_xS_exp, e_xS_app, e_xS_ext, e_xS_setIx, e_xS_ret, e_xS_ife, e_xS_pas, e_xS_brk, e_xS_cnt, e_xS_nev, e_xsl_nil, e_xsl_cons, q_bind, q_toS, q_seq1, q_seq2, q_seq3, q_seq4, q_end1, q_end2, q_tst, q_pick, q_ret1, q_ret2, q_ret3, q_dv1, q_dv2, q_es1, q_es2, q_ea0, q_ea1, q_ea2, q_ea3, q_ec1, line0, line1, line2, line3, line4, line5, line6, line7, line8, q_sk1, q_sk2, q_sk3, q_noX, q_hold1, q_hold2, q_frz1, id, q_goS, q_sv1, q_sv2, q_sv3, q_ub1, q_ub2, q_pv, parS, parS3, Nat.reduceLT, Nat.reduceLeDiff, q_andK, q_orK, q_chnK, q_ite1, q_ite2, q_ite3, q_ite4, q_ite5, decide_eq_true_eq, Bool.not_eq_true', decide_eq_false_iff_not, q_add, q_sub, q_lt, q_le, q_gt, q_ge, q_eqI, q_neI, q_len1, q_len2, q_int1, q_int2, q_min, q_max, q_tup1, q_tup2, q_lst1, q_lst2, q_subL, q_subT, q_slL, q_slT, argE, List.getElem?_cons_zero, List.getElem?_cons_succ, List.getElem?_nil, List.map_cons, List.map_nil, List.replicate, List.nil_append, List.cons_append, List.append_nil, Option.map_some, Option.map_none, if_true, if_false, reduceIte, List.length_cons, List.length_nil, Nat.reduceAdd, Nat.reduceSub, List.mapM_cons, List.mapM_nil, Option.bind_eq_bind, Option.bind_some, Option.pure_def, atI_lit, List.set_cons_zero, List.set_cons_succ, q_as1, q_as2, q_as3, q_as4, q_as5, q_wp0, q_wp1, q_kp0, q_kp1, q_ed0, q_ed1, Bool.false_eq_true, Bool.not_true, Bool.not_false]) (line_ge (by show ds.length ≤ _; omega)) trivial ?_
        · exact this
        · intro d _
          refine ⟨[some (.fz (.tuple ds)), some (.fz d)], .fz (.bool (intB d)), by simp only [e_ev_var, e_ev_cI, e_ev_cS, e_ev_cN, e_ev_cB, e_ev_neg, e_ev_tup, e_ev_lst, e_ev_bin, e_ev_cmp, e_ev_chn, e_ev_and, e_ev_or, e_ev_not, e_ev_ite, e_ev_sub, e_ev_slc, e_ev_rev, e_ev_call, e_ev_bi, e_ev_isi, e_ev_index, e_ev_pop, e_ev_popAt, e_evs_nil, e_evs_cons, e_evAnd_one, e_evAnd_more, e_evOr_one, e_evOr_more, e_evO_no, e_evO_yes, e_evI_seq, e_evI_rng1, e_evI_rng2, e_evI_enm, e_evI_zp, e_xS_asg, e_xS_set, e_xS_par, e_xS_par3, e_xS_exp, e_xS_app, e_xS_ext, e_xS_setIx, e_xS_ret, e_xS_ife, e_xS_pas, e_xS_brk, e_xS_cnt, e_xS_nev, e_xsl_nil, e_xsl_cons, q_bind, q_toS, q_seq1, q_seq2, q_seq3, q_seq4, q_end1, q_end2, q_tst, q_pick, q_ret1, q_ret2, q_ret3, q_dv1, q_dv2, q_es1, q_es2, q_ea0, q_ea1, q_ea2, q_ea3, q_ec1, line0, line1, line2, line3, line4, line5, line6, line7, line8, q_sk1, q_sk2, q_sk3, q_noX, q_hold1, q_hold2, q_frz1, id, q_goS, q_sv1, q_sv2, q_sv3, q_ub1, q_ub2, q_pv, parS, parS3, Nat.reduceLT, Nat.reduceLeDiff, q_andK, q_orK, q_chnK, q_ite1, q_ite2, q_ite3, q_ite4, q_ite5, decide_eq_true_eq, Bool.not_eq_true', decide_eq_false_iff_not, q_add, q_sub, q_lt, q_le, q_gt, q_ge, q_eqI, q_neI, q_len1, q_len2, q_int1, q_int2, q_min, q_max, q_tup1, q_tup2, q_lst1, q_lst2, q_subL, q_subT, q_slL, q_slT, argE, List.getElem?_cons_zero, List.getElem?_cons_succ, List.getElem?_nil, List.map_cons, List.map_nil, List.replicate, List.nil_append, List.cons_append, List.append_nil, Option.map_some, Option.map_none, if_true, if_false, reduceIte, List.length_cons, List.length_nil, Nat.reduceAdd, Nat.reduceSub, List.mapM_cons, List.mapM_nil, Option.bind_eq_bind, Option.bind_some, Option.pure_def, atI_lit, List.set_cons_zero, List.set_cons_succ, q_as1, q_as2, q_as3, q_as4, q_as5, q_wp0, q_wp1, q_kp0, q_kp1, q_ed0, q_ed1, Bool.false_eq_true, Bool.not_true, Bool.not_false], ?_, rfl, rfl⟩
          simp only [e_ev_var, e_ev_cI, e_ev_cS, e_ev_cN, e_ev_cB, e_ev_neg, e_ev_tup, e_ev_lst, e_ev_bin, e_ev_cmp, e_ev_chn, e_ev_and, e_ev_or, e_ev_not, e_ev_ite, e_ev_sub, e_ev_slc, e_ev_rev, e_ev_call, e_ev_bi, e_ev_isi, e_ev_index, e_ev_pop, e_ev_popAt, e_evs_nil, e_evs_cons, e_evAnd_one, e_evAnd_more, e_evOr_one, e_evOr_more, e_evO_no, e_evO_yes, e_evI_seq, e_evI_rng1, e_evI_rng2, e_evI_enm, e_evI_zp, e_xS_asg, e_xS_set, e_xS_par, e_xS_par3, e_xS_exp, e_xS_app, e_xS_ext, e_xS_setIx, e_xS_ret, e_xS_ife, e_xS_pas, e_xS_brk, e_xS_cnt, e_xS_nev, e_xsl_nil, e_xsl_cons, q_bind, q_toS, q_seq1, q_seq2, q_seq3, q_seq4, q_end1, q_end2, q_tst, q_pick, q_ret1, q_ret2, q_ret3, q_dv1, q_dv2, q_es1, q_es2, q_ea0, q_ea1, q_ea2, q_ea3, q_ec1, line0, line1, line2, line3, line4, line5, line6, line7, line8, q_sk1, q_sk2, q_sk3, q_noX, q_hold1, q_hold2, q_frz1, id, q_goS, q_sv1, q_sv2, q_sv3, q_ub1, q_ub2, q_pv, parS, parS3, Nat.reduceLT, Nat.reduceLeDiff, q_andK, q_orK, q_chnK, q_ite1, q_ite2, q_ite3, q_ite4, q_ite5, decide_eq_true_eq, Bool.not_eq_true', decide_eq_false_iff_not, q_add, q_sub, q_lt, q_le, q_gt, q_ge, q_eqI, q_neI, q_len1, q_len2, q_int1, q_int2, q_min, q_max, q_tup1, q_tup2, q_lst1, q_lst2, q_subL, q_subT, q_slL, q_slT, argE, List.getElem?_cons_zero, List.getElem?_cons_succ, List.getElem?_nil, List.map_cons, List.map_nil, List.replicate, List.nil_append, List.cons_append, List.append_nil, Option.map_some, Option.map_none, if_true, if_false, reduceIte, List.length_cons, List.length_nil, Nat.reduceAdd, Nat.reduceSub, List.mapM_cons, List.mapM_nil, Option.bind_eq_bind, Option.bind_some, Option.pure_def, atI_lit, List.set_cons_zero, List.set_cons_succ, q_as1, q_as2, q_as3, q_as4, q_as5, q_wp0, q_wp1, q_kp0, q_kp1, q_ed0, q_ed1, Bool.false_eq_true, Bool.not_true, Bool.not_false]
          rw [← int_not_bool d]
          split <;> rfl
      have hb := bools_map intB ds
      have hall := q_all _ hb
      simp only [b_is_pair, e_ev_var, e_ev_cI, e_ev_cS, e_ev_cN, e_ev_cB, e_ev_neg, e_ev_tup, e_ev_lst, e_ev_bin, e_ev_cmp, e_ev_chn, e_ev_and, e_ev_or, e_ev_not, e_ev_ite, e_ev_sub, e_ev_slc, e_ev_rev, e_ev_call, e_ev_bi, e_ev_isi, e_ev_index, e_ev_pop, e_ev_popAt, e_evs_nil, e_evs_cons, e_evAnd_one, e_evAnd_more, e_evOr_one, e_evOr_more, e_evO_no, e_evO_yes, e_evI_seq, e_evI_rng1, e_evI_rng2, e_evI_enm, e_evI_zp, e_xS_asg, e_xS_set, e_xS_par, e_xS_par3, e_xS_exp, e_xS_app, e_xS_ext, e_xS_setIx, e_xS_ret, e_xS_ife, e_xS_pas, e_xS_brk, e_xS_cnt, e_xS_nev, e_xsl_nil, e_xsl_cons, q_bind, q_toS, q_seq1, q_seq2, q_seq3, q_seq4, q_end1, q_end2, q_tst, q_pick, q_ret1, q_ret2, q_ret3, q_dv1, q_dv2, q_es1, q_es2, q_ea0, q_ea1, q_ea2, q_ea3, q_ec1, line0, line1, line2, line3, line4, line5, line6, line7, line8, q_sk1, q_sk2, q_sk3, q_noX, q_hold1, q_hold2, q_frz1, id, q_goS, q_sv1, q_sv2, q_sv3, q_ub1, q_ub2, q_pv, parS, parS3, Nat.reduceLT, Nat.reduceLeDiff, q_andK, q_orK, q_chnK, q_ite1, q_ite2, q_ite3, q_ite4, q_ite5, decide_eq_true_eq, Bool.not_eq_true', decide_eq_false_iff_not, q_add, q_sub, q_lt, q_le, q_gt, q_ge, q_eqI, q_neI, q_len1, q_len2, q_int1, q_int2, q_min, q_max, q_tup1, q_tup2, q_lst1, q_lst2, q_subL, q_subT, q_slL, q_slT, argE, List.getElem?_cons_zero, List.getElem?_cons_succ, List.getElem?_nil, List.map_cons, List.map_nil, List.replicate, List.nil_append, List.cons_append, List.append_nil, Option.map_some, Option.map_none, if_true, if_false, reduceIte, List.length_cons, List.length_nil, Nat.reduceAdd, Nat.reduceSub, List.mapM_cons, List.mapM_nil, Option.bind_eq_bind, Option.bind_some, Option.pure_def, atI_lit, List.set_cons_zero, List.set_cons_succ, q_as1, q_as2, q_as3, q_as4, q_as5, q_wp0, q_wp1, q_kp0, q_kp1, q_ed0, q_ed1, Bool.false_eq_true, Bool.not_true, Bool.not_false, hL, isiD, h2, hall]
      simp [pairB, h2]
    · have h3 : ¬ ((ds.length : Nat) : Int) = 2 := by omega
      simp only [b_is_pair, e_ev_var, e_ev_cI, e_ev_cS, e_ev_cN, e_ev_cB, e_ev_neg, e_ev_tup, e_ev_lst, e_ev_bin, e_ev_cmp, e_ev_chn, e_ev_and, e_ev_or, e_ev_not, e_ev_ite, e_ev_sub, e_ev_slc, e_ev_rev, e_ev_call, e_ev_bi, e_ev_isi, e_ev_index, e_ev_pop, e_ev_popAt, e_evs_nil, e_evs_cons, e_evAnd_one, e_evAnd_more, e_evOr_one, e_evOr_more, e_evO_no, e_evO_yes, e_evI_seq, e_evI_rng1, e_evI_rng2, e_evI_enm, e_evI_zp, e_xS_asg, e_xS_set, e_xS_par, e_xS_par3, e_xS_exp, e_xS_app, e_xS_ext, e_xS_setIx, e_xS_ret, e_xS_ife, e_xS_pas, e_xS_brk, e_xS_cnt, e_xS_nev, e_xsl_nil, e_xsl_cons, q_bind, q_toS, q_seq1, q_seq2, q_seq3, q_seq4, q_end1, q_end2, q_tst, q_pick, q_ret1, q_ret2, q_ret3, q_dv1, q_dv2, q_es1, q_es2, q_ea0, q_ea1, q_ea2, q_ea3, q_ec1, line0, line1, line2, line3, line4, line5, line6, line7, line8, q_sk1, q_sk2, q_sk3, q_noX, q_hold1, q_hold2, q_frz1, id, q_goS, q_sv1, q_sv2, q_sv3, q_ub1, q_ub2, q_pv, parS, parS3, Nat.reduceLT, Nat.reduceLeDiff, q_andK, q_orK, q_chnK, q_ite1, q_ite2, q_ite3, q_ite4, q_ite5, decide_eq_true_eq, Bool.not_eq_true', decide_eq_false_iff_not, q_add, q_sub, q_lt, q_le, q_gt, q_ge, q_eqI, q_neI, q_len1, q_len2, q_int1, q_int2, q_min, q_max, q_tup1, q_tup2, q_lst1, q_lst2, q_subL, q_subT, q_slL, q_slT, argE, List.getElem?_cons_zero, List.getElem?_cons_succ, List.getElem?_nil, List.map_cons, List.map_nil, List.replicate, List.nil_append, List.cons_append, List.append_nil, Option.map_some, Option.map_none, if_true, if_false, reduceIte, List.length_cons, List.length_nil, Nat.reduceAdd, Nat.reduceSub, List.mapM_cons, List.mapM_nil, Option.bind_eq_bind, Option.bind_some, Option.pure_def, atI_lit, List.set_cons_zero, List.set_cons_succ, q_as1, q_as2, q_as3, q_as4, q_as5, q_wp0, q_wp1, q_kp0, q_kp1, q_ed0, q_ed1, Bool.false_eq_true, Bool.not_true, Bool.not_false, not_false_eq_true, isiD, h3, pairB, decide_eq_false h2, Bool.false_and]
  · have h1 : isiD .tuple d = false := by
      cases d <;> first | rfl | exact absurd ⟨_, rfl⟩ h
    have h2 : pairB d = false := by
      cases d <;> first | rfl | exact absurd ⟨_, rfl⟩ h
    simp only [b_is_pair, e_ev_var, e_ev_cI, e_ev_cS, e_ev_cN, e_ev_cB, e_ev_neg, e_ev_tup, e_ev_lst, e_ev_bin, e_ev_cmp, e_ev_chn, e_ev_and, e_ev_or, e_ev_not, e_ev_ite, e_ev_sub, e_ev_slc, e_ev_rev, e_ev_call, e_ev_bi, e_ev_isi, e_ev_index, e_ev_pop, e_ev_popAt, e_evs_nil, e_evs_cons, e_evAnd_one, e_evAnd_more, e_evOr_one, e_evOr_more, e_evO_no, e_evO_yes, e_evI_seq, e_evI_rng1, e_evI_rng2, e_evI_enm, e_evI_zp, e_xS_asg, e_xS_set, e_xS_par, e_xS_par3, e_xS_exp, e_xS_app, e_xS_ext, e_xS_setIx, e_xS_ret, e_xS_ife, e_xS_pas, e_xS_brk, e_xS_cnt, e_xS_nev, e_xsl_nil, e_xsl_cons, q_bind, q_toS, q_seq1, q_seq2, q_seq3, q_seq4, q_end1, q_end2, q_tst, q_pick, q_ret1, q_ret2, q_ret3, q_dv1, q_dv2, q_es1, q_es2, q_ea0, q_ea1, q_ea2, q_ea3, q_ec1, line0, line1, line2, line3, line4, line5, line6, line7, line8, q_sk1, q_sk2, q_sk3, q_noX, q_hold1, q_hold2, q_frz1, id, q_goS, q_sv1, q_sv2, q_sv3, q_ub1, q_ub2, q_pv, parS, parS3, Nat.reduceLT, Nat.reduceLeDiff, q_andK, q_orK, q_chnK, q_ite1, q_ite2, q_ite3, q_ite4, q_ite5, decide_eq_true_eq, Bool.not_eq_true', decide_eq_false_iff_not, q_add, q_sub, q_lt, q_le, q_gt, q_ge, q_eqI, q_neI, q_len1, q_len2, q_int1, q_int2, q_min, q_max, q_tup1, q_tup2, q_lst1, q_lst2, q_subL, q_subT, q_slL, q_slT, argE, List.getElem?_cons_zero, List.getElem?_cons_succ, List.getElem?_nil, List.map_cons, List.map_nil, List.replicate, List.nil_append, List.cons_append, List.append_nil, Option.map_some, Option.map_none, if_true, if_false, reduceIte, List.length_cons, List.length_nil, Nat.reduceAdd, Nat.reduceSub, List.mapM_cons, List.mapM_nil, Option.bind_eq_bind, Option.bind_some, Option.pure_def, atI_lit, List.set_cons_zero, List.set_cons_succ, q_as1, q_as2, q_as3, q_as4, q_as5, q_wp0, q_wp1, q_kp0, q_kp1, q_ed0, q_ed1, Bool.false_eq_true, Bool.not_true, Bool.not_false, h1, h2]
end K37

set_option Elab.async false
set_option linter.all false
set_option maxRecDepth 100000
set_option maxHeartbeats 8000000
set_option exponentiation.threshold 1000
set_option autoImplicit false
namespace K37
open PySem PySem.Spec L2 DL
/-! ### the fault of places -/
theorem tm_pt {p : Pt} (h : SmP p) : Tm 1 100 (pt p) := by
  refine (Tm.tuple (k := 0) (m := 25) (ds := [.int p.1, .int p.2]) ?_).mono (by decide) (by show 2 * 25 + 2 * 2 + 3 ≤ 100; decide)
  intro d hd
  simp only [List.mem_cons, List.not_mem_nil, or_false] at hd
  rcases hd with rfl | rfl
  · exact Tm.int h.1
  · exact Tm.int h.2
theorem sm_nat {a : Nat} (h : a < 1000000) : Sm (a : Nat) := by unfold Sm; omega
theorem tm_tie {t : Tie} {n : Nat} (h : t.1 < n ∧ t.2 < n) (hn : n ≤ 63) : Tm 1 100 (tieD t) := by
  refine (Tm.tuple (k := 0) (m := 25) (ds := [.int (t.1 : Nat), .int (t.2 : Nat)]) ?_).mono (by decide) (by show 2 * 25 + 2 * 2 + 3 ≤ 100; decide)
  intro d hd
  simp only [List.mem_cons, List.not_mem_nil, or_false] at hd
  rcases hd with rfl | rfl
  · exact Tm.int (sm_nat (by omega))
  · exact Tm.int (sm_nat (by omega))
theorem tm_pair {s t : Tie} {n : Nat} (h : s.1 < n ∧ s.2 < n) (h' : t.1 < n ∧ t.2 < n) (hn : n ≤ 63) : Tm 2 250 (pairD s t) := by
  refine (Tm.tuple (k := 1) (m := 100) (ds := [tieD s, tieD t]) ?_).mono (by decide) (by show 2 * 100 + 2 * 2 + 3 ≤ 250; decide)
  intro d hd
  simp only [List.mem_cons, List.not_mem_nil, or_false] at hd
  rcases hd with rfl | rfl
  · exact tm_tie h hn
  · exact tm_tie h' hn
theorem meetL_mem {n : Nat} {ts : List Tie} {ps : List Pt} (o : Ok n ts ps) {d : PyData} (h : d ∈ meetL ps ts) : ∃ s t : Tie, s ∈ ts ∧ t ∈ ts ∧ crossP ps s t = true ∧ d = pairD s t := by
  unfold meetL upP at h
  rw [List.mem_flatMap] at h
  obtain ⟨i, hi, h⟩ := h
  unfold innP at h
  rw [List.mem_map] at h
  obtain ⟨t, ht, rfl⟩ := h
  rw [List.mem_filter] at ht
  have hi' : i < ts.length := by simpa using hi
  refine ⟨tieAt ts i, t, ?_, mem_drop ht.1, ht.2, rfl⟩
  simp only [tieAt, List.getD_eq_getElem?_getD, List.getElem?_eq_getElem hi', Option.getD_some]
  exact List.getElem_mem hi'
theorem meetL_len {n : Nat} {ts : List Tie} {ps : List Pt} (o : Ok n ts ps) : (meetL ps ts).length ≤ 10000 := by
  have h1 := upP_len ps ts ts.length
  have h2 : ts.length * ts.length ≤ 100 * 100 := Nat.mul_le_mul o.few o.few
  unfold meetL
  omega
theorem tm_meetL {n : Nat} {ts : List Tie} {ps : List Pt} (o : Ok n ts ps) : ∀ d, d ∈ meetL ps ts → Tm 2 250 d := by
  intro d h
  obtain ⟨s, t, hs, ht, _, rfl⟩ := meetL_mem o h
  exact tm_pair (o.tie s hs) (o.tie t ht) o.n9
theorem tm_nil : Tm 1 25 (.tuple []) := ⟨by decide, by decide, by decide, by decide +kernel, by decide +kernel⟩
theorem ne_nilT {n : Nat} {ts : List Tie} {ps : List Pt} (o : Ok n ts ps) : cmpD .ne (.tuple (meetL ps ts)) (.tuple []) = some (decide (meetL ps ts ≠ [])) := by
  rw [q_ne (okEq_tm (Tm.tuple (tm_meetL o)) tm_nil (by decide) (by decide))]
  congr 1
  cases meetL ps ts with
  | nil => rfl
  | cons a r => simp [PyData.eqv, PyData.eqvAll]
theorem ne_nilL {n : Nat} {ts : List Tie} {ps : List Pt} (o : Ok n ts ps) : cmpD .ne (.list (meetL ps ts)) (.list []) = some (decide (meetL ps ts ≠ [])) := by
  rw [q_ne (okEq_tm (Tm.list (tm_meetL o)) (Tm.list (k := 0) (m := 0) (ds := []) (fun _ h => nomatch h)) (by decide) (by decide))]
  congr 1
  cases meetL ps ts with
  | nil => rfl
  | cons a r => simp [PyData.eqv, PyData.eqvAll]
def sameD (a b : Nat) : PyData := .tuple [.str "same", .int (a : Nat), .int (b : Nat)]
def onD (v : Nat) (t : Tie) : PyData := .tuple [.str "on", .int (v : Nat), .int (t.1 : Nat), .int (t.2 : Nat)]
def crossD (s t : Tie) : PyData := .tuple [.str "cross", tieD s, tieD t]
theorem same_shape {n : Nat} {ps : List Pt} {v : EV} (h : sameAll n ps = some v) : ∃ a b : Nat, a < n ∧ b < n ∧ v = .fz (sameD a b) := by
  obtain ⟨a, ha, h⟩ := List.exists_of_findSome?_eq_some h
  obtain ⟨b, hb, h⟩ := List.exists_of_findSome?_eq_some h
  unfold sameOf at h
  split at h
  · cases h
    rw [List.mem_range'] at hb
    rw [List.mem_range] at ha
    exact ⟨a, b, ha, by omega, rfl⟩
  · cases h
theorem on_shape {n : Nat} {ts : List Tie} {ps : List Pt} {v : EV} (h : onAll n ts ps = some v) : ∃ (a : Nat) (t : Tie), a < n ∧ t ∈ ts ∧ v = .fz (onD a t) := by
  obtain ⟨a, ha, h⟩ := List.exists_of_findSome?_eq_some h
  obtain ⟨t, ht, h⟩ := List.exists_of_findSome?_eq_some h
  unfold onOf at h
  split at h
  · cases h
    rw [List.mem_range] at ha
    exact ⟨a, t, ha, ht, rfl⟩
  · cases h
/-- what a look at valid places finds -/
inductive Fault (n : Nat) (ts : List Tie) (ps : List Pt) : PyData → Prop where
  | same {a b : Nat} (ha : a < n) (hb : b < n) (h : sameAll n ps = some (.fz (sameD a b))) : Fault n ts ps (sameD a b)
  | on {a : Nat} {t : Tie} (ha : a < n) (ht : t ∈ ts) (h : sameAll n ps = none) (h' : onAll n ts ps = some (.fz (onD a t))) : Fault n ts ps (onD a t)
  | cross {s t : Tie} {r : List PyData} (hs : s ∈ ts) (ht : t ∈ ts) (h : sameAll n ps = none) (h' : onAll n ts ps = none) (h'' : meetL ps ts = pairD s t :: r) : Fault n ts ps (crossD s t)
  | clear (h : sameAll n ps = none) (h' : onAll n ts ps = none) (h'' : meetL ps ts = []) : Fault n ts ps .none
theorem fault_is {n : Nat} {ts : List Tie} {ps : List Pt} (o : Ok n ts ps) : ∃ d, Fault n ts ps d := by
  cases h : sameAll n ps with
  | some v =>
    obtain ⟨a, b, ha, hb, rfl⟩ := same_shape h
    exact ⟨_, .same ha hb h⟩
  | none =>
    cases h' : onAll n ts ps with
    | some v =>
      obtain ⟨a, t, ha, ht, rfl⟩ := on_shape h'
      exact ⟨_, .on ha ht h h'⟩
    | none =>
      cases h'' : meetL ps ts with
      | nil => exact ⟨_, .clear h h' h''⟩
      | cons d r =>
        obtain ⟨s, t, hs, ht, _, rfl⟩ := meetL_mem o (show d ∈ meetL ps ts by rw [h'']; simp)
        exact ⟨_, .cross hs ht h h' h''⟩
theorem pair_pt (p : Pt) : pairB (pt p) = true := rfl
theorem all_pairs (ps : List Pt) : ((ps.map pt).map pairB).all id = true := by
  rw [List.all_eq_true]
  intro b hb
  simp only [List.map_map, List.mem_map, Function.comp] at hb
  obtain ⟨p, _, rfl⟩ := hb
  rfl
theorem ev_pairs {fn : Fns} {w : Wd} (hp : ∀ d, fn 1 [.fz d] w = .ok (.fz (.bool (pairB d))) w) (a : EV) (ds : List PyData) (hl : ds.length ≤ 1000000) :
    ev fn (.lc [("one", 4)] (.nm 4) (.seq (.var 1)) .nil (.call 1 (.cons (.var 4) .nil))) [some a, some (.fz (.tuple ds)), none, none, none] w = .ok (.lst (ds.map fun d => .bool (pairB d))) [some a, some (.fz (.tuple ds)), none, none, none] w := by
  have := ev_map (fn := fn) (own := [("one", 4)]) (tg := .nm 4) (it := .seq (.var 1)) (elt := .call 1 (.cons (.var 4) .nil)) (env := [some a, some (.fz (.tuple ds)), none, none, none]) (e1 := [some a, some (.fz (.tuple ds)), none, none, none]) (w := w) (k := ⟨ds, none, []⟩) (fun d => .bool (pairB d)) (by simp only [e_ev_var, e_ev_cI, e_ev_cS, e_ev_cN, e_ev_cB, e_ev_neg, e_ev_tup, e_ev_lst, e_ev_bin, e_ev_cmp, e_ev_chn, e_ev_and, e_ev_or, e_ev_not, e_ev_ite, e_ev_sub, e_ev_slc, e_ev_rev, e_ev_call, e_ev_bi, e_ev_isi, e_ev_index, e_ev_pop, e_ev_popAt, e_evs_nil, e_evs_cons, e_evAnd_one, e_evAnd_more, e_evOr_one, e_evOr_more, e_evO_no, e_evO_yes, e_evI_seq, e_evI_rng1, e_evI_rng2, e_evI_enm, e_evI_zp, e_xS_asg, e_xS_set, e_xS_par, e_xS_par3, e_xS_exp, e_xS_app, e_xS_ext, e_xS_setIx, e_xS_ret, e_xS_ife, e_xS_pas, e_xS_brk, e_xS_cnt, e_xS_nev, e_xsl_nil, e_xsl_cons, q_bind, q_toS, q_seq1, q_seq2, q_seq3, q_seq4, q_end1, q_end2, q_tst, q_pick, q_ret1, q_ret2, q_ret3, q_dv1, q_dv2, q_es1, q_es2, q_ea0, q_ea1, q_ea2, q_ea3, q_ec1, line0, line1, line2, line3, line4, line5, line6, line7, line8, q_sk1, q_sk2, q_sk3, q_noX, q_hold1, q_hold2, q_frz1, id, q_goS, q_sv1, q_sv2, q_sv3, q_ub1, q_ub2, q_pv, parS, parS3, Nat.reduceLT, Nat.reduceLeDiff, q_andK, q_orK, q_chnK, q_ite1, q_ite2, q_ite3, q_ite4, q_ite5, decide_eq_true_eq, Bool.not_eq_true', decide_eq_false_iff_not, q_add, q_sub, q_lt, q_le, q_gt, q_ge, q_eqI, q_neI, q_len1, q_len2, q_int1, q_int2, q_min, q_max, q_tup1, q_tup2, q_lst1, q_lst2, q_subL, q_subT, q_slL, q_slT, argE, List.getElem?_cons_zero, List.getElem?_cons_succ, List.getElem?_nil, List.map_cons, List.map_nil, List.replicate, List.nil_append, List.cons_append, List.append_nil, Option.map_some, Option.map_none, if_true, if_false, reduceIte, List.length_cons, List.length_nil, Nat.reduceAdd, Nat.reduceSub, List.mapM_cons, List.mapM_nil, Option.bind_eq_bind, Option.bind_some, Option.pure_def, atI_lit, List.set_cons_zero, List.set_cons_succ, q_as1, q_as2, q_as3, q_as4, q_as5, q_wp0, q_wp1, q_kp0, q_kp1, q_ed0, q_ed1, Bool.false_eq_true, Bool.not_true, Bool.not_false]) (line_ge hl) trivial ?_
  · exact this
  · intro d _
    refine ⟨[some a, some (.fz (.tuple ds)), none, none, some (.fz d)], .fz (.bool (pairB d)), by simp only [e_ev_var, e_ev_cI, e_ev_cS, e_ev_cN, e_ev_cB, e_ev_neg, e_ev_tup, e_ev_lst, e_ev_bin, e_ev_cmp, e_ev_chn, e_ev_and, e_ev_or, e_ev_not, e_ev_ite, e_ev_sub, e_ev_slc, e_ev_rev, e_ev_call, e_ev_bi, e_ev_isi, e_ev_index, e_ev_pop, e_ev_popAt, e_evs_nil, e_evs_cons, e_evAnd_one, e_evAnd_more, e_evOr_one, e_evOr_more, e_evO_no, e_evO_yes, e_evI_seq, e_evI_rng1, e_evI_rng2, e_evI_enm, e_evI_zp, e_xS_asg, e_xS_set, e_xS_par, e_xS_par3, e_xS_exp, e_xS_app, e_xS_ext, e_xS_setIx, e_xS_ret, e_xS_ife, e_xS_pas, e_xS_brk, e_xS_cnt, e_xS_nev, e_xsl_nil, e_xsl_cons, q_bind, q_toS, q_seq1, q_seq2, q_seq3, q_seq4, q_end1, q_end2, q_tst, q_pick, q_ret1, q_ret2, q_ret3, q_dv1, q_dv2, q_es1, q_es2, q_ea0, q_ea1, q_ea2, q_ea3, q_ec1, line0, line1, line2, line3, line4, line5, line6, line7, line8, q_sk1, q_sk2, q_sk3, q_noX, q_hold1, q_hold2, q_frz1, id, q_goS, q_sv1, q_sv2, q_sv3, q_ub1, q_ub2, q_pv, parS, parS3, Nat.reduceLT, Nat.reduceLeDiff, q_andK, q_orK, q_chnK, q_ite1, q_ite2, q_ite3, q_ite4, q_ite5, decide_eq_true_eq, Bool.not_eq_true', decide_eq_false_iff_not, q_add, q_sub, q_lt, q_le, q_gt, q_ge, q_eqI, q_neI, q_len1, q_len2, q_int1, q_int2, q_min, q_max, q_tup1, q_tup2, q_lst1, q_lst2, q_subL, q_subT, q_slL, q_slT, argE, List.getElem?_cons_zero, List.getElem?_cons_succ, List.getElem?_nil, List.map_cons, List.map_nil, List.replicate, List.nil_append, List.cons_append, List.append_nil, Option.map_some, Option.map_none, if_true, if_false, reduceIte, List.length_cons, List.length_nil, Nat.reduceAdd, Nat.reduceSub, List.mapM_cons, List.mapM_nil, Option.bind_eq_bind, Option.bind_some, Option.pure_def, atI_lit, List.set_cons_zero, List.set_cons_succ, q_as1, q_as2, q_as3, q_as4, q_as5, q_wp0, q_wp1, q_kp0, q_kp1, q_ed0, q_ed1, Bool.false_eq_true, Bool.not_true, Bool.not_false], ?_, rfl, rfl⟩
    simp only [e_ev_var, e_ev_cI, e_ev_cS, e_ev_cN, e_ev_cB, e_ev_neg, e_ev_tup, e_ev_lst, e_ev_bin, e_ev_cmp, e_ev_chn, e_ev_and, e_ev_or, e_ev_not, e_ev_ite, e_ev_sub, e_ev_slc, e_ev_rev, e_ev_call, e_ev_bi, e_ev_isi, e_ev_index, e_ev_pop, e_ev_popAt, e_evs_nil, e_evs_cons, e_evAnd_one, e_evAnd_more, e_evOr_one, e_evOr_more, e_evO_no, e_evO_yes, e_evI_seq, e_evI_rng1, e_evI_rng2, e_evI_enm, e_evI_zp, e_xS_asg, e_xS_set, e_xS_par, e_xS_par3, e_xS_exp, e_xS_app, e_xS_ext, e_xS_setIx, e_xS_ret, e_xS_ife, e_xS_pas, e_xS_brk, e_xS_cnt, e_xS_nev, e_xsl_nil, e_xsl_cons, q_bind, q_toS, q_seq1, q_seq2, q_seq3, q_seq4, q_end1, q_end2, q_tst, q_pick, q_ret1, q_ret2, q_ret3, q_dv1, q_dv2, q_es1, q_es2, q_ea0, q_ea1, q_ea2, q_ea3, q_ec1, line0, line1, line2, line3, line4, line5, line6, line7, line8, q_sk1, q_sk2, q_sk3, q_noX, q_hold1, q_hold2, q_frz1, id, q_goS, q_sv1, q_sv2, q_sv3, q_ub1, q_ub2, q_pv, parS, parS3, Nat.reduceLT, Nat.reduceLeDiff, q_andK, q_orK, q_chnK, q_ite1, q_ite2, q_ite3, q_ite4, q_ite5, decide_eq_true_eq, Bool.not_eq_true', decide_eq_false_iff_not, q_add, q_sub, q_lt, q_le, q_gt, q_ge, q_eqI, q_neI, q_len1, q_len2, q_int1, q_int2, q_min, q_max, q_tup1, q_tup2, q_lst1, q_lst2, q_subL, q_subT, q_slL, q_slT, argE, List.getElem?_cons_zero, List.getElem?_cons_succ, List.getElem?_nil, List.map_cons, List.map_nil, List.replicate, List.nil_append, List.cons_append, List.append_nil, Option.map_some, Option.map_none, if_true, if_false, reduceIte, List.length_cons, List.length_nil, Nat.reduceAdd, Nat.reduceSub, List.mapM_cons, List.mapM_nil, Option.bind_eq_bind, Option.bind_some, Option.pure_def, atI_lit, List.set_cons_zero, List.set_cons_succ, q_as1, q_as2, q_as3, q_as4, q_as5, q_wp0, q_wp1, q_kp0, q_kp1, q_ed0, q_ed1, Bool.false_eq_true, Bool.not_true, Bool.not_false, hp]
theorem notN1 {a b : Nat} : cmpD .notn (sameD a b) .none = some true := rfl
theorem isN1 {a b : Nat} : cmpD .isn (sameD a b) .none = some false := rfl
theorem notN2 {a : Nat} {t : Tie} : cmpD .notn (onD a t) .none = some true := rfl
theorem isN2 {a : Nat} {t : Tie} : cmpD .isn (onD a t) .none = some false := rfl
theorem notN3 : cmpD .notn .none .none = some false := rfl
theorem isN3 : cmpD .isn .none .none = some true := rfl
theorem m_place_fault (k : Nat) (w : Wd) {n : Nat} {ts : List Tie} {ps : List Pt} (o : Ok n ts ps) {d : PyData} (f : Fault n ts ps d) :
    fnAt tab (k + 5) 7 [.fz (webD n ts), .fz (plD ps)] w = .ok (.fz d) w := by
  rw [fnAt_txt t_place_fault (by decide) (k + 4) _ w rfl]
  have h1 : ∀ d, fnAt tab (k + 4) 1 [.fz d] w = .ok (.fz (.bool (pairB d))) w := fun d => m_is_pair (k + 3) w d
  have h5 := m_first_same (k + 3) w o
  have h6 := m_first_on (k + 1) w o
  have h4 := m_meetings k w o
  have n9 := o.n9
  have len := o.len
  have hne := ne_nilT o
  generalize fnAt tab (k + 4) = fn at *
  have hL := ev_pairs h1 (.fz (webD n ts)) (ps.map pt) (by simp; omega)
  have hb := q_all _ (bools_map pairB (ps.map pt))
  rw [all_pairs] at hb
  unfold plD at h4 h5 h6 ⊢
  have hi : isiD .tuple (.tuple (ps.map pt)) = true := rfl
  cases f with
  | same ha hb' h =>
    rw [h] at h5
    simp only [b_place_fault, e_ev_var, e_ev_cI, e_ev_cS, e_ev_cN, e_ev_cB, e_ev_neg, e_ev_tup, e_ev_lst, e_ev_bin, e_ev_cmp, e_ev_chn, e_ev_and, e_ev_or, e_ev_not, e_ev_ite, e_ev_sub, e_ev_slc, e_ev_rev, e_ev_call, e_ev_bi, e_ev_isi, e_ev_index, e_ev_pop, e_ev_popAt, e_evs_nil, e_evs_cons, e_evAnd_one, e_evAnd_more, e_evOr_one, e_evOr_more, e_evO_no, e_evO_yes, e_evI_seq, e_evI_rng1, e_evI_rng2, e_evI_enm, e_evI_zp, e_xS_asg, e_xS_set, e_xS_par, e_xS_par3, e_xS_exp, e_xS_app, e_xS_ext, e_xS_setIx, e_xS_ret, e_xS_ife, e_xS_pas, e_xS_brk, e_xS_cnt, e_xS_nev, e_xsl_nil, e_xsl_cons, q_bind, q_toS, q_seq1, q_seq2, q_seq3, q_seq4, q_end1, q_end2, q_tst, q_pick, q_ret1, q_ret2, q_ret3, q_dv1, q_dv2, q_es1, q_es2, q_ea0, q_ea1, q_ea2, q_ea3, q_ec1, line0, line1, line2, line3, line4, line5, line6, line7, line8, q_sk1, q_sk2, q_sk3, q_noX, q_hold1, q_hold2, q_frz1, id, q_goS, q_sv1, q_sv2, q_sv3, q_ub1, q_ub2, q_pv, parS, parS3, Nat.reduceLT, Nat.reduceLeDiff, q_andK, q_orK, q_chnK, q_ite1, q_ite2, q_ite3, q_ite4, q_ite5, decide_eq_true_eq, Bool.not_eq_true', decide_eq_false_iff_not, q_add, q_sub, q_lt, q_le, q_gt, q_ge, q_eqI, q_neI, q_len1, q_len2, q_int1, q_int2, q_min, q_max, q_tup1, q_tup2, q_lst1, q_lst2, q_subL, q_subT, q_slL, q_slT, argE, List.getElem?_cons_zero, List.getElem?_cons_succ, List.getElem?_nil, List.map_cons, List.map_nil, List.replicate, List.nil_append, List.cons_append, List.append_nil, Option.map_some, Option.map_none, if_true, if_false, reduceIte, List.length_cons, List.length_nil, Nat.reduceAdd, Nat.reduceSub, List.mapM_cons, List.mapM_nil, Option.bind_eq_bind, Option.bind_some, Option.pure_def, atI_lit, List.set_cons_zero, List.set_cons_succ, q_as1, q_as2, q_as3, q_as4, q_as5, q_wp0, q_wp1, q_kp0, q_kp1, q_ed0, q_ed1, Bool.false_eq_true, Bool.not_true, Bool.not_false, hi, List.length_map, len, eq_self, not_false_eq_true, web0, hL, hb, h5, noneD, notN1, isN1, not_true_eq_false]
  | on ha ht h h' =>
    rw [h] at h5
    rw [h'] at h6
    simp only [b_place_fault, e_ev_var, e_ev_cI, e_ev_cS, e_ev_cN, e_ev_cB, e_ev_neg, e_ev_tup, e_ev_lst, e_ev_bin, e_ev_cmp, e_ev_chn, e_ev_and, e_ev_or, e_ev_not, e_ev_ite, e_ev_sub, e_ev_slc, e_ev_rev, e_ev_call, e_ev_bi, e_ev_isi, e_ev_index, e_ev_pop, e_ev_popAt, e_evs_nil, e_evs_cons, e_evAnd_one, e_evAnd_more, e_evOr_one, e_evOr_more, e_evO_no, e_evO_yes, e_evI_seq, e_evI_rng1, e_evI_rng2, e_evI_enm, e_evI_zp, e_xS_asg, e_xS_set, e_xS_par, e_xS_par3, e_xS_exp, e_xS_app, e_xS_ext, e_xS_setIx, e_xS_ret, e_xS_ife, e_xS_pas, e_xS_brk, e_xS_cnt, e_xS_nev, e_xsl_nil, e_xsl_cons, q_bind, q_toS, q_seq1, q_seq2, q_seq3, q_seq4, q_end1, q_end2, q_tst, q_pick, q_ret1, q_ret2, q_ret3, q_dv1, q_dv2, q_es1, q_es2, q_ea0, q_ea1, q_ea2, q_ea3, q_ec1, line0, line1, line2, line3, line4, line5, line6, line7, line8, q_sk1, q_sk2, q_sk3, q_noX, q_hold1, q_hold2, q_frz1, id, q_goS, q_sv1, q_sv2, q_sv3, q_ub1, q_ub2, q_pv, parS, parS3, Nat.reduceLT, Nat.reduceLeDiff, q_andK, q_orK, q_chnK, q_ite1, q_ite2, q_ite3, q_ite4, q_ite5, decide_eq_true_eq, Bool.not_eq_true', decide_eq_false_iff_not, q_add, q_sub, q_lt, q_le, q_gt, q_ge, q_eqI, q_neI, q_len1, q_len2, q_int1, q_int2, q_min, q_max, q_tup1, q_tup2, q_lst1, q_lst2, q_subL, q_subT, q_slL, q_slT, argE, List.getElem?_cons_zero, List.getElem?_cons_succ, List.getElem?_nil, List.map_cons, List.map_nil, List.replicate, List.nil_append, List.cons_append, List.append_nil, Option.map_some, Option.map_none, if_true, if_false, reduceIte, List.length_cons, List.length_nil, Nat.reduceAdd, Nat.reduceSub, List.mapM_cons, List.mapM_nil, Option.bind_eq_bind, Option.bind_some, Option.pure_def, atI_lit, List.set_cons_zero, List.set_cons_succ, q_as1, q_as2, q_as3, q_as4, q_as5, q_wp0, q_wp1, q_kp0, q_kp1, q_ed0, q_ed1, Bool.false_eq_true, Bool.not_true, Bool.not_false, hi, List.length_map, len, eq_self, not_false_eq_true, web0, hL, hb, h5, h6, noneD, notN2, isN3, not_true_eq_false]
  | cross hs ht h h' h'' =>
    rw [h] at h5
    rw [h'] at h6
    rw [h''] at h4 hne
    simp only [pairD] at h4 hne
    have hc : ∀ s t : Tie, binD .add (.tuple [.str "cross"]) (.tuple [tieD s, tieD t]) = some (.fz (crossD s t)) := fun s t => q_catT (ds := [.str "cross"]) (es := [tieD s, tieD t]) (line_ge (by show 3 ≤ _; decide))
    simp only [b_place_fault, e_ev_var, e_ev_cI, e_ev_cS, e_ev_cN, e_ev_cB, e_ev_neg, e_ev_tup, e_ev_lst, e_ev_bin, e_ev_cmp, e_ev_chn, e_ev_and, e_ev_or, e_ev_not, e_ev_ite, e_ev_sub, e_ev_slc, e_ev_rev, e_ev_call, e_ev_bi, e_ev_isi, e_ev_index, e_ev_pop, e_ev_popAt, e_evs_nil, e_evs_cons, e_evAnd_one, e_evAnd_more, e_evOr_one, e_evOr_more, e_evO_no, e_evO_yes, e_evI_seq, e_evI_rng1, e_evI_rng2, e_evI_enm, e_evI_zp, e_xS_asg, e_xS_set, e_xS_par, e_xS_par3, e_xS_exp, e_xS_app, e_xS_ext, e_xS_setIx, e_xS_ret, e_xS_ife, e_xS_pas, e_xS_brk, e_xS_cnt, e_xS_nev, e_xsl_nil, e_xsl_cons, q_bind, q_toS, q_seq1, q_seq2, q_seq3, q_seq4, q_end1, q_end2, q_tst, q_pick, q_ret1, q_ret2, q_ret3, q_dv1, q_dv2, q_es1, q_es2, q_ea0, q_ea1, q_ea2, q_ea3, q_ec1, line0, line1, line2, line3, line4, line5, line6, line7, line8, q_sk1, q_sk2, q_sk3, q_noX, q_hold1, q_hold2, q_frz1, id, q_goS, q_sv1, q_sv2, q_sv3, q_ub1, q_ub2, q_pv, parS, parS3, Nat.reduceLT, Nat.reduceLeDiff, q_andK, q_orK, q_chnK, q_ite1, q_ite2, q_ite3, q_ite4, q_ite5, decide_eq_true_eq, Bool.not_eq_true', decide_eq_false_iff_not, q_add, q_sub, q_lt, q_le, q_gt, q_ge, q_eqI, q_neI, q_len1, q_len2, q_int1, q_int2, q_min, q_max, q_tup1, q_tup2, q_lst1, q_lst2, q_subL, q_subT, q_slL, q_slT, argE, List.getElem?_cons_zero, List.getElem?_cons_succ, List.getElem?_nil, List.map_cons, List.map_nil, List.replicate, List.nil_append, List.cons_append, List.append_nil, Option.map_some, Option.map_none, if_true, if_false, reduceIte, List.length_cons, List.length_nil, Nat.reduceAdd, Nat.reduceSub, List.mapM_cons, List.mapM_nil, Option.bind_eq_bind, Option.bind_some, Option.pure_def, atI_lit, List.set_cons_zero, List.set_cons_succ, q_as1, q_as2, q_as3, q_as4, q_as5, q_wp0, q_wp1, q_kp0, q_kp1, q_ed0, q_ed1, Bool.false_eq_true, Bool.not_true, Bool.not_false, hi, List.length_map, len, eq_self, not_false_eq_true, web0, hL, hb, h4, h5, h6, noneD, notN3, isN3, not_true_eq_false, hne, ne_eq, not_false_eq_true, decide_true, decide_false, hc, reduceCtorEq]
  | clear h h' h'' =>
    rw [h] at h5
    rw [h'] at h6
    rw [h''] at h4 hne
    simp only [b_place_fault, e_ev_var, e_ev_cI, e_ev_cS, e_ev_cN, e_ev_cB, e_ev_neg, e_ev_tup, e_ev_lst, e_ev_bin, e_ev_cmp, e_ev_chn, e_ev_and, e_ev_or, e_ev_not, e_ev_ite, e_ev_sub, e_ev_slc, e_ev_rev, e_ev_call, e_ev_bi, e_ev_isi, e_ev_index, e_ev_pop, e_ev_popAt, e_evs_nil, e_evs_cons, e_evAnd_one, e_evAnd_more, e_evOr_one, e_evOr_more, e_evO_no, e_evO_yes, e_evI_seq, e_evI_rng1, e_evI_rng2, e_evI_enm, e_evI_zp, e_xS_asg, e_xS_set, e_xS_par, e_xS_par3, e_xS_exp, e_xS_app, e_xS_ext, e_xS_setIx, e_xS_ret, e_xS_ife, e_xS_pas, e_xS_brk, e_xS_cnt, e_xS_nev, e_xsl_nil, e_xsl_cons, q_bind, q_toS, q_seq1, q_seq2, q_seq3, q_seq4, q_end1, q_end2, q_tst, q_pick, q_ret1, q_ret2, q_ret3, q_dv1, q_dv2, q_es1, q_es2, q_ea0, q_ea1, q_ea2, q_ea3, q_ec1, line0, line1, line2, line3, line4, line5, line6, line7, line8, q_sk1, q_sk2, q_sk3, q_noX, q_hold1, q_hold2, q_frz1, id, q_goS, q_sv1, q_sv2, q_sv3, q_ub1, q_ub2, q_pv, parS, parS3, Nat.reduceLT, Nat.reduceLeDiff, q_andK, q_orK, q_chnK, q_ite1, q_ite2, q_ite3, q_ite4, q_ite5, decide_eq_true_eq, Bool.not_eq_true', decide_eq_false_iff_not, q_add, q_sub, q_lt, q_le, q_gt, q_ge, q_eqI, q_neI, q_len1, q_len2, q_int1, q_int2, q_min, q_max, q_tup1, q_tup2, q_lst1, q_lst2, q_subL, q_subT, q_slL, q_slT, argE, List.getElem?_cons_zero, List.getElem?_cons_succ, List.getElem?_nil, List.map_cons, List.map_nil, List.replicate, List.nil_append, List.cons_append, List.append_nil, Option.map_some, Option.map_none, if_true, if_false, reduceIte, List.length_cons, List.length_nil, Nat.reduceAdd, Nat.reduceSub, List.mapM_cons, List.mapM_nil, Option.bind_eq_bind, Option.bind_some, Option.pure_def, atI_lit, List.set_cons_zero, List.set_cons_succ, q_as1, q_as2, q_as3, q_as4, q_as5, q_wp0, q_wp1, q_kp0, q_kp1, q_ed0, q_ed1, Bool.false_eq_true, Bool.not_true, Bool.not_false, hi, List.length_map, len, eq_self, not_false_eq_true, web0, hL, hb, h4, h5, h6, noneD, notN3, isN3, not_true_eq_false, hne, ne_eq, not_false_eq_true, decide_true, decide_false, pairD, crossD, reduceCtorEq]
end K37

set_option Elab.async false
set_option linter.all false
set_option maxRecDepth 100000
set_option maxHeartbeats 8000000
set_option exponentiation.threshold 1000
set_option autoImplicit false
namespace K37
open PySem PySem.Spec L2 DL
/-! ### values that are no places -/
def formD : PyData := .tuple [.str "form"]
inductive Odd (n : Nat) : PyData → Prop where
  | no {d : PyData} (h : isiD .tuple d = false) : Odd n d
  | len {ds : List PyData} (h : ds.length ≠ n) : Odd n (.tuple ds)
  | one {ds : List PyData} (h : ds.length = n) (h' : ∃ d, d ∈ ds ∧ pairB d = false) : Odd n (.tuple ds)
theorem m_place_odd (k : Nat) (w : Wd) {n : Nat} {ts : List Tie} (n9 : n ≤ 63) {d : PyData} (od : Odd n d) :
    fnAt tab (k + 5) 7 [.fz (webD n ts), .fz d] w = .ok (.fz formD) w := by
  rw [fnAt_txt t_place_fault (by decide) (k + 4) _ w rfl]
  have h1 : ∀ d, fnAt tab (k + 4) 1 [.fz d] w = .ok (.fz (.bool (pairB d))) w := fun d => m_is_pair (k + 3) w d
  generalize fnAt tab (k + 4) = fn at *
  cases od with
  | no h =>
    simp only [b_place_fault, e_ev_var, e_ev_cI, e_ev_cS, e_ev_cN, e_ev_cB, e_ev_neg, e_ev_tup, e_ev_lst, e_ev_bin, e_ev_cmp, e_ev_chn, e_ev_and, e_ev_or, e_ev_not, e_ev_ite, e_ev_sub, e_ev_slc, e_ev_rev, e_ev_call, e_ev_bi, e_ev_isi, e_ev_index, e_ev_pop, e_ev_popAt, e_evs_nil, e_evs_cons, e_evAnd_one, e_evAnd_more, e_evOr_one, e_evOr_more, e_evO_no, e_evO_yes, e_evI_seq, e_evI_rng1, e_evI_rng2, e_evI_enm, e_evI_zp, e_xS_asg, e_xS_set, e_xS_par, e_xS_par3, e_xS_exp, e_xS_app, e_xS_ext, e_xS_setIx, e_xS_ret, e_xS_ife, e_xS_pas, e_xS_brk, e_xS_cnt, e_xS_nev, e_xsl_nil, e_xsl_cons, q_bind, q_toS, q_seq1, q_seq2, q_seq3, q_seq4, q_end1, q_end2, q_tst, q_pick, q_ret1, q_ret2, q_ret3, q_dv1, q_dv2, q_es1, q_es2, q_ea0, q_ea1, q_ea2, q_ea3, q_ec1, line0, line1, line2, line3, line4, line5, line6, line7, line8, q_sk1, q_sk2, q_sk3, q_noX, q_hold1, q_hold2, q_frz1, id, q_goS, q_sv1, q_sv2, q_sv3, q_ub1, q_ub2, q_pv, parS, parS3, Nat.reduceLT, Nat.reduceLeDiff, q_andK, q_orK, q_chnK, q_ite1, q_ite2, q_ite3, q_ite4, q_ite5, decide_eq_true_eq, Bool.not_eq_true', decide_eq_false_iff_not, q_add, q_sub, q_lt, q_le, q_gt, q_ge, q_eqI, q_neI, q_len1, q_len2, q_int1, q_int2, q_min, q_max, q_tup1, q_tup2, q_lst1, q_lst2, q_subL, q_subT, q_slL, q_slT, argE, List.getElem?_cons_zero, List.getElem?_cons_succ, List.getElem?_nil, List.map_cons, List.map_nil, List.replicate, List.nil_append, List.cons_append, List.append_nil, Option.map_some, Option.map_none, if_true, if_false, reduceIte, List.length_cons, List.length_nil, Nat.reduceAdd, Nat.reduceSub, List.mapM_cons, List.mapM_nil, Option.bind_eq_bind, Option.bind_some, Option.pure_def, atI_lit, List.set_cons_zero, List.set_cons_succ, q_as1, q_as2, q_as3, q_as4, q_as5, q_wp0, q_wp1, q_kp0, q_kp1, q_ed0, q_ed1, Bool.false_eq_true, Bool.not_true, Bool.not_false, h, formD]
  | @len ds h =>
    have h3 : ¬ ((ds.length : Nat) : Int) = (n : Nat) := by omega
    have hi : isiD .tuple (.tuple ds) = true := rfl
    simp only [b_place_fault, e_ev_var, e_ev_cI, e_ev_cS, e_ev_cN, e_ev_cB, e_ev_neg, e_ev_tup, e_ev_lst, e_ev_bin, e_ev_cmp, e_ev_chn, e_ev_and, e_ev_or, e_ev_not, e_ev_ite, e_ev_sub, e_ev_slc, e_ev_rev, e_ev_call, e_ev_bi, e_ev_isi, e_ev_index, e_ev_pop, e_ev_popAt, e_evs_nil, e_evs_cons, e_evAnd_one, e_evAnd_more, e_evOr_one, e_evOr_more, e_evO_no, e_evO_yes, e_evI_seq, e_evI_rng1, e_evI_rng2, e_evI_enm, e_evI_zp, e_xS_asg, e_xS_set, e_xS_par, e_xS_par3, e_xS_exp, e_xS_app, e_xS_ext, e_xS_setIx, e_xS_ret, e_xS_ife, e_xS_pas, e_xS_brk, e_xS_cnt, e_xS_nev, e_xsl_nil, e_xsl_cons, q_bind, q_toS, q_seq1, q_seq2, q_seq3, q_seq4, q_end1, q_end2, q_tst, q_pick, q_ret1, q_ret2, q_ret3, q_dv1, q_dv2, q_es1, q_es2, q_ea0, q_ea1, q_ea2, q_ea3, q_ec1, line0, line1, line2, line3, line4, line5, line6, line7, line8, q_sk1, q_sk2, q_sk3, q_noX, q_hold1, q_hold2, q_frz1, id, q_goS, q_sv1, q_sv2, q_sv3, q_ub1, q_ub2, q_pv, parS, parS3, Nat.reduceLT, Nat.reduceLeDiff, q_andK, q_orK, q_chnK, q_ite1, q_ite2, q_ite3, q_ite4, q_ite5, decide_eq_true_eq, Bool.not_eq_true', decide_eq_false_iff_not, q_add, q_sub, q_lt, q_le, q_gt, q_ge, q_eqI, q_neI, q_len1, q_len2, q_int1, q_int2, q_min, q_max, q_tup1, q_tup2, q_lst1, q_lst2, q_subL, q_subT, q_slL, q_slT, argE, List.getElem?_cons_zero, List.getElem?_cons_succ, List.getElem?_nil, List.map_cons, List.map_nil, List.replicate, List.nil_append, List.cons_append, List.append_nil, Option.map_some, Option.map_none, if_true, if_false, reduceIte, List.length_cons, List.length_nil, Nat.reduceAdd, Nat.reduceSub, List.mapM_cons, List.mapM_nil, Option.bind_eq_bind, Option.bind_some, Option.pure_def, atI_lit, List.set_cons_zero, List.set_cons_succ, q_as1, q_as2, q_as3, q_as4, q_as5, q_wp0, q_wp1, q_kp0, q_kp1, q_ed0, q_ed1, Bool.false_eq_true, Bool.not_true, Bool.not_false, hi, h3, web0, not_false_eq_true, formD]
  | @one ds h h' =>
    have hL := ev_pairs (w := w) h1 (.fz (webD n ts)) ds (by omega)
    have hb := q_all _ (bools_map pairB ds)
    have hf : (ds.map pairB).all id = false := by
      obtain ⟨d, hd, hp⟩ := h'
      rw [List.all_eq_false]
      exact ⟨false, by rw [List.mem_map]; exact ⟨d, hd, hp⟩, by decide⟩
    rw [hf] at hb
    have hi : isiD .tuple (.tuple ds) = true := rfl
    simp only [b_place_fault, e_ev_var, e_ev_cI, e_ev_cS, e_ev_cN, e_ev_cB, e_ev_neg, e_ev_tup, e_ev_lst, e_ev_bin, e_ev_cmp, e_ev_chn, e_ev_and, e_ev_or, e_ev_not, e_ev_ite, e_ev_sub, e_ev_slc, e_ev_rev, e_ev_call, e_ev_bi, e_ev_isi, e_ev_index, e_ev_pop, e_ev_popAt, e_evs_nil, e_evs_cons, e_evAnd_one, e_evAnd_more, e_evOr_one, e_evOr_more, e_evO_no, e_evO_yes, e_evI_seq, e_evI_rng1, e_evI_rng2, e_evI_enm, e_evI_zp, e_xS_asg, e_xS_set, e_xS_par, e_xS_par3, e_xS_exp, e_xS_app, e_xS_ext, e_xS_setIx, e_xS_ret, e_xS_ife, e_xS_pas, e_xS_brk, e_xS_cnt, e_xS_nev, e_xsl_nil, e_xsl_cons, q_bind, q_toS, q_seq1, q_seq2, q_seq3, q_seq4, q_end1, q_end2, q_tst, q_pick, q_ret1, q_ret2, q_ret3, q_dv1, q_dv2, q_es1, q_es2, q_ea0, q_ea1, q_ea2, q_ea3, q_ec1, line0, line1, line2, line3, line4, line5, line6, line7, line8, q_sk1, q_sk2, q_sk3, q_noX, q_hold1, q_hold2, q_frz1, id, q_goS, q_sv1, q_sv2, q_sv3, q_ub1, q_ub2, q_pv, parS, parS3, Nat.reduceLT, Nat.reduceLeDiff, q_andK, q_orK, q_chnK, q_ite1, q_ite2, q_ite3, q_ite4, q_ite5, decide_eq_true_eq, Bool.not_eq_true', decide_eq_false_iff_not, q_add, q_sub, q_lt, q_le, q_gt, q_ge, q_eqI, q_neI, q_len1, q_len2, q_int1, q_int2, q_min, q_max, q_tup1, q_tup2, q_lst1, q_lst2, q_subL, q_subT, q_slL, q_slT, argE, List.getElem?_cons_zero, List.getElem?_cons_succ, List.getElem?_nil, List.map_cons, List.map_nil, List.replicate, List.nil_append, List.cons_append, List.append_nil, Option.map_some, Option.map_none, if_true, if_false, reduceIte, List.length_cons, List.length_nil, Nat.reduceAdd, Nat.reduceSub, List.mapM_cons, List.mapM_nil, Option.bind_eq_bind, Option.bind_some, Option.pure_def, atI_lit, List.set_cons_zero, List.set_cons_succ, q_as1, q_as2, q_as3, q_as4, q_as5, q_wp0, q_wp1, q_kp0, q_kp1, q_ed0, q_ed1, Bool.false_eq_true, Bool.not_true, Bool.not_false, hi, h, web0, hL, hb, eq_self, not_true_eq_false, not_false_eq_true, formD]
/-! ### the law's own look -/
theorem findNone {α β : Type} : ∀ l : List α, l.findSome? (fun _ => (none : Option β)) = none
  | [] => rfl
  | _ :: l => by rw [List.findSome?_cons]; exact findNone l
theorem lf1 (fn : Fns) (w : Wd) {n : Nat} {ts : List Tie} {ps : List Pt} (o : Ok n ts ps) : ∃ x2 : Option EV, xS fn (.for_ (.nm 2) (.seq (.var 1)) (.cons (.ife (.or (.cons (.not (.isi (.var 2) .tuple)) (.cons (.cmp .ne (.bi .len (.cons (.var 2) .nil)) (.cI 2)) (.cons (.bi .any (.cons (.lc [("x", 7)] (.nm 7) (.seq (.var 2)) .nil (.or (.cons (.not (.isi (.var 7) .int)) (.cons (.isi (.var 7) .bool) .nil)))) .nil)) .nil)))) (.cons (.ret (.tup (.cons (.cS "form") .nil))) .nil) .nil) .nil)) [some (.fz (webD n ts)), some (.fz (plD ps)), none, none, none, none, none, none] w = .nx [some (.fz (webD n ts)), some (.fz (plD ps)), x2, none, none, none, none, none] w := by
  have H := xS_findM (g := pt) (fn := fn) (w := w) (tg := (.nm 2)) (it := (.seq (.var 1))) (b := (.cons (.ife (.or (.cons (.not (.isi (.var 2) .tuple)) (.cons (.cmp .ne (.bi .len (.cons (.var 2) .nil)) (.cI 2)) (.cons (.bi .any (.cons (.lc [("x", 7)] (.nm 7) (.seq (.var 2)) .nil (.or (.cons (.not (.isi (.var 7) .int)) (.cons (.isi (.var 7) .bool) .nil)))) .nil)) .nil)))) (.cons (.ret (.tup (.cons (.cS "form") .nil))) .nil) .nil) .nil)) (env := [some (.fz (webD n ts)), some (.fz (plD ps)), none, none, none, none, none, none]) (r := []) (e1 := [some (.fz (webD n ts)), some (.fz (plD ps)), none, none, none, none, none, none]) (f := fun _ => none) (J := fun e => ∃ x2 : Option EV, e = [some (.fz (webD n ts)), some (.fz (plD ps)), x2, none, none, none, none, none]) ps ?_ ⟨_, rfl⟩ ?_
  · rw [findNone] at H
    obtain ⟨e2, h1, x2, rfl⟩ := H
    exact ⟨x2, h1⟩
  · simp only [e_ev_var, e_ev_cI, e_ev_cS, e_ev_cN, e_ev_cB, e_ev_neg, e_ev_tup, e_ev_lst, e_ev_bin, e_ev_cmp, e_ev_chn, e_ev_and, e_ev_or, e_ev_not, e_ev_ite, e_ev_sub, e_ev_slc, e_ev_rev, e_ev_call, e_ev_bi, e_ev_isi, e_ev_index, e_ev_pop, e_ev_popAt, e_evs_nil, e_evs_cons, e_evAnd_one, e_evAnd_more, e_evOr_one, e_evOr_more, e_evO_no, e_evO_yes, e_evI_seq, e_evI_rng1, e_evI_rng2, e_evI_enm, e_evI_zp, e_xS_asg, e_xS_set, e_xS_par, e_xS_par3, e_xS_exp, e_xS_app, e_xS_ext, e_xS_setIx, e_xS_ret, e_xS_ife, e_xS_pas, e_xS_brk, e_xS_cnt, e_xS_nev, e_xsl_nil, e_xsl_cons, q_bind, q_toS, q_seq1, q_seq2, q_seq3, q_seq4, q_end1, q_end2, q_tst, q_pick, q_ret1, q_ret2, q_ret3, q_dv1, q_dv2, q_es1, q_es2, q_ea0, q_ea1, q_ea2, q_ea3, q_ec1, line0, line1, line2, line3, line4, line5, line6, line7, line8, q_sk1, q_sk2, q_sk3, q_noX, q_hold1, q_hold2, q_frz1, id, q_goS, q_sv1, q_sv2, q_sv3, q_ub1, q_ub2, q_pv, parS, parS3, Nat.reduceLT, Nat.reduceLeDiff, q_andK, q_orK, q_chnK, q_ite1, q_ite2, q_ite3, q_ite4, q_ite5, decide_eq_true_eq, Bool.not_eq_true', decide_eq_false_iff_not, q_add, q_sub, q_lt, q_le, q_gt, q_ge, q_eqI, q_neI, q_len1, q_len2, q_int1, q_int2, q_min, q_max, q_tup1, q_tup2, q_lst1, q_lst2, q_subL, q_subT, q_slL, q_slT, argE, List.getElem?_cons_zero, List.getElem?_cons_succ, List.getElem?_nil, List.map_cons, List.map_nil, List.replicate, List.nil_append, List.cons_append, List.append_nil, Option.map_some, Option.map_none, if_true, if_false, reduceIte, List.length_cons, List.length_nil, Nat.reduceAdd, Nat.reduceSub, List.mapM_cons, List.mapM_nil, Option.bind_eq_bind, Option.bind_some, Option.pure_def, atI_lit, List.set_cons_zero, List.set_cons_succ, q_as1, q_as2, q_as3, q_as4, q_as5, q_wp0, q_wp1, q_kp0, q_kp1, q_ed0, q_ed1, Bool.false_eq_true, Bool.not_true, Bool.not_false, plD]
  · rintro p hp env ⟨x2, rfl⟩
    refine ⟨[some (.fz (webD n ts)), some (.fz (plD ps)), some (.fz (pt p)), none, none, none, none, none], by simp only [e_ev_var, e_ev_cI, e_ev_cS, e_ev_cN, e_ev_cB, e_ev_neg, e_ev_tup, e_ev_lst, e_ev_bin, e_ev_cmp, e_ev_chn, e_ev_and, e_ev_or, e_ev_not, e_ev_ite, e_ev_sub, e_ev_slc, e_ev_rev, e_ev_call, e_ev_bi, e_ev_isi, e_ev_index, e_ev_pop, e_ev_popAt, e_evs_nil, e_evs_cons, e_evAnd_one, e_evAnd_more, e_evOr_one, e_evOr_more, e_evO_no, e_evO_yes, e_evI_seq, e_evI_rng1, e_evI_rng2, e_evI_enm, e_evI_zp, e_xS_asg, e_xS_set, e_xS_par, e_xS_par3, e_xS_exp, e_xS_app, e_xS_ext, e_xS_setIx, e_xS_ret, e_xS_ife, e_xS_pas, e_xS_brk, e_xS_cnt, e_xS_nev, e_xsl_nil, e_xsl_cons, q_bind, q_toS, q_seq1, q_seq2, q_seq3, q_seq4, q_end1, q_end2, q_tst, q_pick, q_ret1, q_ret2, q_ret3, q_dv1, q_dv2, q_es1, q_es2, q_ea0, q_ea1, q_ea2, q_ea3, q_ec1, line0, line1, line2, line3, line4, line5, line6, line7, line8, q_sk1, q_sk2, q_sk3, q_noX, q_hold1, q_hold2, q_frz1, id, q_goS, q_sv1, q_sv2, q_sv3, q_ub1, q_ub2, q_pv, parS, parS3, Nat.reduceLT, Nat.reduceLeDiff, q_andK, q_orK, q_chnK, q_ite1, q_ite2, q_ite3, q_ite4, q_ite5, decide_eq_true_eq, Bool.not_eq_true', decide_eq_false_iff_not, q_add, q_sub, q_lt, q_le, q_gt, q_ge, q_eqI, q_neI, q_len1, q_len2, q_int1, q_int2, q_min, q_max, q_tup1, q_tup2, q_lst1, q_lst2, q_subL, q_subT, q_slL, q_slT, argE, List.getElem?_cons_zero, List.getElem?_cons_succ, List.getElem?_nil, List.map_cons, List.map_nil, List.replicate, List.nil_append, List.cons_append, List.append_nil, Option.map_some, Option.map_none, if_true, if_false, reduceIte, List.length_cons, List.length_nil, Nat.reduceAdd, Nat.reduceSub, List.mapM_cons, List.mapM_nil, Option.bind_eq_bind, Option.bind_some, Option.pure_def, atI_lit, List.set_cons_zero, List.set_cons_succ, q_as1, q_as2, q_as3, q_as4, q_as5, q_wp0, q_wp1, q_kp0, q_kp1, q_ed0, q_ed1, Bool.false_eq_true, Bool.not_true, Bool.not_false], [some (.fz (webD n ts)), some (.fz (plD ps)), some (.fz (pt p)), none, none, none, none, none], ?_, _, rfl⟩
    have hL : ev fn (.lc [("x", 7)] (.nm 7) (.seq (.var 2)) .nil (.or (.cons (.not (.isi (.var 7) .int)) (.cons (.isi (.var 7) .bool) .nil)))) [some (.fz (webD n ts)), some (.fz (plD ps)), some (.fz (pt p)), none, none, none, none, none] w = .ok (.lst ([.int p.1, .int p.2].map fun d => .bool (!intB d))) [some (.fz (webD n ts)), some (.fz (plD ps)), some (.fz (pt p)), none, none, none, none, none] w := by
      have := ev_map (fn := fn) (own := [("x", 7)]) (tg := .nm 7) (it := .seq (.var 2)) (elt := .or (.cons (.not (.isi (.var 7) .int)) (.cons (.isi (.var 7) .bool) .nil))) (env := [some (.fz (webD n ts)), some (.fz (plD ps)), some (.fz (pt p)), none, none, none, none, none]) (e1 := [some (.fz (webD n ts)), some (.fz (plD ps)), some (.fz (pt p)), none, none, none, none, none]) (w := w) (k := ⟨[.int p.1, .int p.2], none, []⟩) (fun d => .bool (!intB d)) (by simp only [e_ev_var, e_ev_cI, e_ev_cS, e_ev_cN, e_ev_cB, e_ev_neg, e_ev_tup, e_ev_lst, e_ev_bin, e_ev_cmp, e_ev_chn, e_ev_and, e_ev_or, e_ev_not, e_ev_ite, e_ev_sub, e_ev_slc, e_ev_rev, e_ev_call, e_ev_bi, e_ev_isi, e_ev_index, e_ev_pop, e_ev_popAt, e_evs_nil, e_evs_cons, e_evAnd_one, e_evAnd_more, e_evOr_one, e_evOr_more, e_evO_no, e_evO_yes, e_evI_seq, e_evI_rng1, e_evI_rng2, e_evI_enm, e_evI_zp, e_xS_asg, e_xS_set, e_xS_par, e_xS_par3, e_xS_exp, e_xS_app, e_xS_ext, e_xS_setIx, e_xS_ret, e_xS_ife, e_xS_pas, e_xS_brk, e_xS_cnt, e_xS_nev, e_xsl_nil, e_xsl_cons, q_bind, q_toS, q_seq1, q_seq2, q_seq3, q_seq4, q_end1, q_end2, q_tst, q_pick, q_ret1, q_ret2, q_ret3, q_dv1, q_dv2, q_es1, q_es2, q_ea0, q_ea1, q_ea2, q_ea3, q_ec1, line0, line1, line2, line3, line4, line5, line6, line7, line8, q_sk1, q_sk2, q_sk3, q_noX, q_hold1, q_hold2, q_frz1, id, q_goS, q_sv1, q_sv2, q_sv3, q_ub1, q_ub2, q_pv, parS, parS3, Nat.reduceLT, Nat.reduceLeDiff, q_andK, q_orK, q_chnK, q_ite1, q_ite2, q_ite3, q_ite4, q_ite5, decide_eq_true_eq, Bool.not_eq_true', decide_eq_false_iff_not, q_add, q_sub, q_lt, q_le, q_gt, q_ge, q_eqI, q_neI, q_len1, q_len2, q_int1, q_int2, q_min, q_max, q_tup1, q_tup2, q_lst1, q_lst2, q_subL, q_subT, q_slL, q_slT, argE, List.getElem?_cons_zero, List.getElem?_cons_succ, List.getElem?_nil, List.map_cons, List.map_nil, List.replicate, List.nil_append, List.cons_append, List.append_nil, Option.map_some, Option.map_none, if_true, if_false, reduceIte, List.length_cons, List.length_nil, Nat.reduceAdd, Nat.reduceSub, List.mapM_cons, List.mapM_nil, Option.bind_eq_bind, Option.bind_some, Option.pure_def, atI_lit, List.set_cons_zero, List.set_cons_succ, q_as1, q_as2, q_as3, q_as4, q_as5, q_wp0, q_wp1, q_kp0, q_kp1, q_ed0, q_ed1, Bool.false_eq_true, Bool.not_true, Bool.not_false, pt]) (line_ge (by show 2 ≤ _; decide)) trivial ?_
      · exact this
      · intro d hd
        simp only [List.mem_cons, List.not_mem_nil, or_false] at hd
        refine ⟨[some (.fz (webD n ts)), some (.fz (plD ps)), some (.fz (pt p)), none, none, none, none, some (.fz d)], .fz (.bool (!intB d)), by simp only [e_ev_var, e_ev_cI, e_ev_cS, e_ev_cN, e_ev_cB, e_ev_neg, e_ev_tup, e_ev_lst, e_ev_bin, e_ev_cmp, e_ev_chn, e_ev_and, e_ev_or, e_ev_not, e_ev_ite, e_ev_sub, e_ev_slc, e_ev_rev, e_ev_call, e_ev_bi, e_ev_isi, e_ev_index, e_ev_pop, e_ev_popAt, e_evs_nil, e_evs_cons, e_evAnd_one, e_evAnd_more, e_evOr_one, e_evOr_more, e_evO_no, e_evO_yes, e_evI_seq, e_evI_rng1, e_evI_rng2, e_evI_enm, e_evI_zp, e_xS_asg, e_xS_set, e_xS_par, e_xS_par3, e_xS_exp, e_xS_app, e_xS_ext, e_xS_setIx, e_xS_ret, e_xS_ife, e_xS_pas, e_xS_brk, e_xS_cnt, e_xS_nev, e_xsl_nil, e_xsl_cons, q_bind, q_toS, q_seq1, q_seq2, q_seq3, q_seq4, q_end1, q_end2, q_tst, q_pick, q_ret1, q_ret2, q_ret3, q_dv1, q_dv2, q_es1, q_es2, q_ea0, q_ea1, q_ea2, q_ea3, q_ec1, line0, line1, line2, line3, line4, line5, line6, line7, line8, q_sk1, q_sk2, q_sk3, q_noX, q_hold1, q_hold2, q_frz1, id, q_goS, q_sv1, q_sv2, q_sv3, q_ub1, q_ub2, q_pv, parS, parS3, Nat.reduceLT, Nat.reduceLeDiff, q_andK, q_orK, q_chnK, q_ite1, q_ite2, q_ite3, q_ite4, q_ite5, decide_eq_true_eq, Bool.not_eq_true', decide_eq_false_iff_not, q_add, q_sub, q_lt, q_le, q_gt, q_ge, q_eqI, q_neI, q_len1, q_len2, q_int1, q_int2, q_min, q_max, q_tup1, q_tup2, q_lst1, q_lst2, q_subL, q_subT, q_slL, q_slT, argE, List.getElem?_cons_zero, List.getElem?_cons_succ, List.getElem?_nil, List.map_cons, List.map_nil, List.replicate, List.nil_append, List.cons_append, List.append_nil, Option.map_some, Option.map_none, if_true, if_false, reduceIte, List.length_cons, List.length_nil, Nat.reduceAdd, Nat.reduceSub, List.mapM_cons, List.mapM_nil, Option.bind_eq_bind, Option.bind_some, Option.pure_def, atI_lit, List.set_cons_zero, List.set_cons_succ, q_as1, q_as2, q_as3, q_as4, q_as5, q_wp0, q_wp1, q_kp0, q_kp1, q_ed0, q_ed1, Bool.false_eq_true, Bool.not_true, Bool.not_false], ?_, rfl, rfl⟩
        rcases hd with rfl | rfl <;> simp only [e_ev_var, e_ev_cI, e_ev_cS, e_ev_cN, e_ev_cB, e_ev_neg, e_ev_tup, e_ev_lst, e_ev_bin, e_ev_cmp, e_ev_chn, e_ev_and, e_ev_or, e_ev_not, e_ev_ite, e_ev_sub, e_ev_slc, e_ev_rev, e_ev_call, e_ev_bi, e_ev_isi, e_ev_index, e_ev_pop, e_ev_popAt, e_evs_nil, e_evs_cons, e_evAnd_one, e_evAnd_more, e_evOr_one, e_evOr_more, e_evO_no, e_evO_yes, e_evI_seq, e_evI_rng1, e_evI_rng2, e_evI_enm, e_evI_zp, e_xS_asg, e_xS_set, e_xS_par, e_xS_par3, e_xS_exp, e_xS_app, e_xS_ext, e_xS_setIx, e_xS_ret, e_xS_ife, e_xS_pas, e_xS_brk, e_xS_cnt, e_xS_nev, e_xsl_nil, e_xsl_cons, q_bind, q_toS, q_seq1, q_seq2, q_seq3, q_seq4, q_end1, q_end2, q_tst, q_pick, q_ret1, q_ret2, q_ret3, q_dv1, q_dv2, q_es1, q_es2, q_ea0, q_ea1, q_ea2, q_ea3, q_ec1, line0, line1, line2, line3, line4, line5, line6, line7, line8, q_sk1, q_sk2, q_sk3, q_noX, q_hold1, q_hold2, q_frz1, id, q_goS, q_sv1, q_sv2, q_sv3, q_ub1, q_ub2, q_pv, parS, parS3, Nat.reduceLT, Nat.reduceLeDiff, q_andK, q_orK, q_chnK, q_ite1, q_ite2, q_ite3, q_ite4, q_ite5, decide_eq_true_eq, Bool.not_eq_true', decide_eq_false_iff_not, q_add, q_sub, q_lt, q_le, q_gt, q_ge, q_eqI, q_neI, q_len1, q_len2, q_int1, q_int2, q_min, q_max, q_tup1, q_tup2, q_lst1, q_lst2, q_subL, q_subT, q_slL, q_slT, argE, List.getElem?_cons_zero, List.getElem?_cons_succ, List.getElem?_nil, List.map_cons, List.map_nil, List.replicate, List.nil_append, List.cons_append, List.append_nil, Option.map_some, Option.map_none, if_true, if_false, reduceIte, List.length_cons, List.length_nil, Nat.reduceAdd, Nat.reduceSub, List.mapM_cons, List.mapM_nil, Option.bind_eq_bind, Option.bind_some, Option.pure_def, atI_lit, List.set_cons_zero, List.set_cons_succ, q_as1, q_as2, q_as3, q_as4, q_as5, q_wp0, q_wp1, q_kp0, q_kp1, q_ed0, q_ed1, Bool.false_eq_true, Bool.not_true, Bool.not_false, isiD, intB]
    have hb := q_any _ (bools_map (fun d => !intB d) [.int p.1, .int p.2])
    have hf : (([.int p.1, .int p.2] : List PyData).map fun d => !intB d).any id = false := rfl
    rw [hf] at hb
    have hi : isiD .tuple (pt p) = true := rfl
    have hl : biD .len [pt p] = some (.fz (.int 2)) := rfl
    simp only [List.map_cons, List.map_nil] at hL hb
    simp only [e_ev_var, e_ev_cI, e_ev_cS, e_ev_cN, e_ev_cB, e_ev_neg, e_ev_tup, e_ev_lst, e_ev_bin, e_ev_cmp, e_ev_chn, e_ev_and, e_ev_or, e_ev_not, e_ev_ite, e_ev_sub, e_ev_slc, e_ev_rev, e_ev_call, e_ev_bi, e_ev_isi, e_ev_index, e_ev_pop, e_ev_popAt, e_evs_nil, e_evs_cons, e_evAnd_one, e_evAnd_more, e_evOr_one, e_evOr_more, e_evO_no, e_evO_yes, e_evI_seq, e_evI_rng1, e_evI_rng2, e_evI_enm, e_evI_zp, e_xS_asg, e_xS_set, e_xS_par, e_xS_par3, e_xS_exp, e_xS_app, e_xS_ext, e_xS_setIx, e_xS_ret, e_xS_ife, e_xS_pas, e_xS_brk, e_xS_cnt, e_xS_nev, e_xsl_nil, e_xsl_cons, q_bind, q_toS, q_seq1, q_seq2, q_seq3, q_seq4, q_end1, q_end2, q_tst, q_pick, q_ret1, q_ret2, q_ret3, q_dv1, q_dv2, q_es1, q_es2, q_ea0, q_ea1, q_ea2, q_ea3, q_ec1, line0, line1, line2, line3, line4, line5, line6, line7, line8, q_sk1, q_sk2, q_sk3, q_noX, q_hold1, q_hold2, q_frz1, id, q_goS, q_sv1, q_sv2, q_sv3, q_ub1, q_ub2, q_pv, parS, parS3, Nat.reduceLT, Nat.reduceLeDiff, q_andK, q_orK, q_chnK, q_ite1, q_ite2, q_ite3, q_ite4, q_ite5, decide_eq_true_eq, Bool.not_eq_true', decide_eq_false_iff_not, q_add, q_sub, q_lt, q_le, q_gt, q_ge, q_eqI, q_neI, q_len1, q_len2, q_int1, q_int2, q_min, q_max, q_tup1, q_tup2, q_lst1, q_lst2, q_subL, q_subT, q_slL, q_slT, argE, List.getElem?_cons_zero, List.getElem?_cons_succ, List.getElem?_nil, List.map_cons, List.map_nil, List.replicate, List.nil_append, List.cons_append, List.append_nil, Option.map_some, Option.map_none, if_true, if_false, reduceIte, List.length_cons, List.length_nil, Nat.reduceAdd, Nat.reduceSub, List.mapM_cons, List.mapM_nil, Option.bind_eq_bind, Option.bind_some, Option.pure_def, atI_lit, List.set_cons_zero, List.set_cons_succ, q_as1, q_as2, q_as3, q_as4, q_as5, q_wp0, q_wp1, q_kp0, q_kp1, q_ed0, q_ed1, Bool.false_eq_true, Bool.not_true, Bool.not_false, hi, hl, hL, hb, not_true_eq_false]
end K37

set_option Elab.async false
set_option linter.all false
set_option maxRecDepth 100000
set_option maxHeartbeats 8000000
set_option exponentiation.threshold 1000
set_option autoImplicit false
namespace K37
open PySem PySem.Spec L2 DL
theorem lf2 (fn : Fns) (w : Wd) {n : Nat} {ts : List Tie} {ps : List Pt} (o : Ok n ts ps) (x2 : Option EV) : match sameAll n ps with
      | some v => xS fn (.for_ (.nm 3) (.rng1 (.sub (.var 0) (.cI 0))) (.cons (.for_ (.nm 4) (.rng2 (.bin .add (.var 3) (.cI 1)) (.sub (.var 0) (.cI 0))) (.cons (.ife (.cmp .eq (.sub (.var 1) (.var 3)) (.sub (.var 1) (.var 4))) (.cons (.ret (.tup (.cons (.cS "same") (.cons (.var 3) (.cons (.var 4) .nil))))) .nil) .nil) .nil)) .nil)) [some (.fz (webD n ts)), some (.fz (plD ps)), x2, none, none, none, none, none] w = .rt v w
      | none => ∃ e2, xS fn (.for_ (.nm 3) (.rng1 (.sub (.var 0) (.cI 0))) (.cons (.for_ (.nm 4) (.rng2 (.bin .add (.var 3) (.cI 1)) (.sub (.var 0) (.cI 0))) (.cons (.ife (.cmp .eq (.sub (.var 1) (.var 3)) (.sub (.var 1) (.var 4))) (.cons (.ret (.tup (.cons (.cS "same") (.cons (.var 3) (.cons (.var 4) .nil))))) .nil) .nil) .nil)) .nil)) [some (.fz (webD n ts)), some (.fz (plD ps)), x2, none, none, none, none, none] w = .nx e2 w ∧ ∃ x3 x4 : Option EV, e2 = [some (.fz (webD n ts)), some (.fz (plD ps)), x2, x3, x4, none, none, none] := by
  have n9 := o.n9
  refine xS_findM (g := fun i : Nat => .int (i : Nat)) (r := []) (e1 := [some (.fz (webD n ts)), some (.fz (plD ps)), x2, none, none, none, none, none]) (J := fun e => ∃ x3 x4 : Option EV, e = [some (.fz (webD n ts)), some (.fz (plD ps)), x2, x3, x4, none, none, none]) (f := sameIn n ps) (List.range n) ?_ ⟨_, _, rfl⟩ ?_
  · rw [← rng0_map]
    exact evI_rng1N (by simp only [e_ev_var, e_ev_cI, e_ev_cS, e_ev_cN, e_ev_cB, e_ev_neg, e_ev_tup, e_ev_lst, e_ev_bin, e_ev_cmp, e_ev_chn, e_ev_and, e_ev_or, e_ev_not, e_ev_ite, e_ev_sub, e_ev_slc, e_ev_rev, e_ev_call, e_ev_bi, e_ev_isi, e_ev_index, e_ev_pop, e_ev_popAt, e_evs_nil, e_evs_cons, e_evAnd_one, e_evAnd_more, e_evOr_one, e_evOr_more, e_evO_no, e_evO_yes, e_evI_seq, e_evI_rng1, e_evI_rng2, e_evI_enm, e_evI_zp, e_xS_asg, e_xS_set, e_xS_par, e_xS_par3, e_xS_exp, e_xS_app, e_xS_ext, e_xS_setIx, e_xS_ret, e_xS_ife, e_xS_pas, e_xS_brk, e_xS_cnt, e_xS_nev, e_xsl_nil, e_xsl_cons, q_bind, q_toS, q_seq1, q_seq2, q_seq3, q_seq4, q_end1, q_end2, q_tst, q_pick, q_ret1, q_ret2, q_ret3, q_dv1, q_dv2, q_es1, q_es2, q_ea0, q_ea1, q_ea2, q_ea3, q_ec1, line0, line1, line2, line3, line4, line5, line6, line7, line8, q_sk1, q_sk2, q_sk3, q_noX, q_hold1, q_hold2, q_frz1, id, q_goS, q_sv1, q_sv2, q_sv3, q_ub1, q_ub2, q_pv, parS, parS3, Nat.reduceLT, Nat.reduceLeDiff, q_andK, q_orK, q_chnK, q_ite1, q_ite2, q_ite3, q_ite4, q_ite5, decide_eq_true_eq, Bool.not_eq_true', decide_eq_false_iff_not, q_add, q_sub, q_lt, q_le, q_gt, q_ge, q_eqI, q_neI, q_len1, q_len2, q_int1, q_int2, q_min, q_max, q_tup1, q_tup2, q_lst1, q_lst2, q_subL, q_subT, q_slL, q_slT, argE, List.getElem?_cons_zero, List.getElem?_cons_succ, List.getElem?_nil, List.map_cons, List.map_nil, List.replicate, List.nil_append, List.cons_append, List.append_nil, Option.map_some, Option.map_none, if_true, if_false, reduceIte, List.length_cons, List.length_nil, Nat.reduceAdd, Nat.reduceSub, List.mapM_cons, List.mapM_nil, Option.bind_eq_bind, Option.bind_some, Option.pure_def, atI_lit, List.set_cons_zero, List.set_cons_succ, q_as1, q_as2, q_as3, q_as4, q_as5, q_wp0, q_wp1, q_kp0, q_kp1, q_ed0, q_ed1, Bool.false_eq_true, Bool.not_true, Bool.not_false, web0]) (by omega)
  · rintro a ha env ⟨x3, x4, rfl⟩
    have han : a < n := by simpa using ha
    refine ⟨[some (.fz (webD n ts)), some (.fz (plD ps)), x2, some (.fz (.int (a : Nat))), x4, none, none, none], by simp only [e_ev_var, e_ev_cI, e_ev_cS, e_ev_cN, e_ev_cB, e_ev_neg, e_ev_tup, e_ev_lst, e_ev_bin, e_ev_cmp, e_ev_chn, e_ev_and, e_ev_or, e_ev_not, e_ev_ite, e_ev_sub, e_ev_slc, e_ev_rev, e_ev_call, e_ev_bi, e_ev_isi, e_ev_index, e_ev_pop, e_ev_popAt, e_evs_nil, e_evs_cons, e_evAnd_one, e_evAnd_more, e_evOr_one, e_evOr_more, e_evO_no, e_evO_yes, e_evI_seq, e_evI_rng1, e_evI_rng2, e_evI_enm, e_evI_zp, e_xS_asg, e_xS_set, e_xS_par, e_xS_par3, e_xS_exp, e_xS_app, e_xS_ext, e_xS_setIx, e_xS_ret, e_xS_ife, e_xS_pas, e_xS_brk, e_xS_cnt, e_xS_nev, e_xsl_nil, e_xsl_cons, q_bind, q_toS, q_seq1, q_seq2, q_seq3, q_seq4, q_end1, q_end2, q_tst, q_pick, q_ret1, q_ret2, q_ret3, q_dv1, q_dv2, q_es1, q_es2, q_ea0, q_ea1, q_ea2, q_ea3, q_ec1, line0, line1, line2, line3, line4, line5, line6, line7, line8, q_sk1, q_sk2, q_sk3, q_noX, q_hold1, q_hold2, q_frz1, id, q_goS, q_sv1, q_sv2, q_sv3, q_ub1, q_ub2, q_pv, parS, parS3, Nat.reduceLT, Nat.reduceLeDiff, q_andK, q_orK, q_chnK, q_ite1, q_ite2, q_ite3, q_ite4, q_ite5, decide_eq_true_eq, Bool.not_eq_true', decide_eq_false_iff_not, q_add, q_sub, q_lt, q_le, q_gt, q_ge, q_eqI, q_neI, q_len1, q_len2, q_int1, q_int2, q_min, q_max, q_tup1, q_tup2, q_lst1, q_lst2, q_subL, q_subT, q_slL, q_slT, argE, List.getElem?_cons_zero, List.getElem?_cons_succ, List.getElem?_nil, List.map_cons, List.map_nil, List.replicate, List.nil_append, List.cons_append, List.append_nil, Option.map_some, Option.map_none, if_true, if_false, reduceIte, List.length_cons, List.length_nil, Nat.reduceAdd, Nat.reduceSub, List.mapM_cons, List.mapM_nil, Option.bind_eq_bind, Option.bind_some, Option.pure_def, atI_lit, List.set_cons_zero, List.set_cons_succ, q_as1, q_as2, q_as3, q_as4, q_as5, q_wp0, q_wp1, q_kp0, q_kp1, q_ed0, q_ed1, Bool.false_eq_true, Bool.not_true, Bool.not_false], ?_⟩
    have I := xS_findM (fn := fn) (w := w) (env := [some (.fz (webD n ts)), some (.fz (plD ps)), x2, some (.fz (.int (a : Nat))), x4, none, none, none]) (tg := (.nm 4)) (it := (.rng2 (.bin .add (.var 3) (.cI 1)) (.sub (.var 0) (.cI 0)))) (b := (.cons (.ife (.cmp .eq (.sub (.var 1) (.var 3)) (.sub (.var 1) (.var 4))) (.cons (.ret (.tup (.cons (.cS "same") (.cons (.var 3) (.cons (.var 4) .nil))))) .nil) .nil) .nil))
      (g := fun i : Nat => .int (i : Nat)) (r := []) (e1 := [some (.fz (webD n ts)), some (.fz (plD ps)), x2, some (.fz (.int (a : Nat))), x4, none, none, none]) (f := sameOf ps a) (J := fun e => ∃ x4 : Option EV, e = [some (.fz (webD n ts)), some (.fz (plD ps)), x2, some (.fz (.int (a : Nat))), x4, none, none, none]) (List.range' (a + 1) (n - (a + 1))) ?_ ⟨_, rfl⟩ ?_
    · unfold sameIn
      cases q : (List.range' (a + 1) (n - (a + 1))).findSome? (sameOf ps a) with
      | some v =>
        rw [q] at I
        exact xsl_rt I
      | none =>
        rw [q] at I
        obtain ⟨e2, h1, x4', h2⟩ := I
        exact ⟨e2, by rw [xsl_nx h1, e_xsl_nil], _, _, h2⟩
    · rw [← rng1_map]
      exact evI_rng2N (e1 := [some (.fz (webD n ts)), some (.fz (plD ps)), x2, some (.fz (.int (a : Nat))), x4, none, none, none]) (w1 := w) (by simp only [e_ev_var, e_ev_cI, e_ev_cS, e_ev_cN, e_ev_cB, e_ev_neg, e_ev_tup, e_ev_lst, e_ev_bin, e_ev_cmp, e_ev_chn, e_ev_and, e_ev_or, e_ev_not, e_ev_ite, e_ev_sub, e_ev_slc, e_ev_rev, e_ev_call, e_ev_bi, e_ev_isi, e_ev_index, e_ev_pop, e_ev_popAt, e_evs_nil, e_evs_cons, e_evAnd_one, e_evAnd_more, e_evOr_one, e_evOr_more, e_evO_no, e_evO_yes, e_evI_seq, e_evI_rng1, e_evI_rng2, e_evI_enm, e_evI_zp, e_xS_asg, e_xS_set, e_xS_par, e_xS_par3, e_xS_exp, e_xS_app, e_xS_ext, e_xS_setIx, e_xS_ret, e_xS_ife, e_xS_pas, e_xS_brk, e_xS_cnt, e_xS_nev, e_xsl_nil, e_xsl_cons, q_bind, q_toS, q_seq1, q_seq2, q_seq3, q_seq4, q_end1, q_end2, q_tst, q_pick, q_ret1, q_ret2, q_ret3, q_dv1, q_dv2, q_es1, q_es2, q_ea0, q_ea1, q_ea2, q_ea3, q_ec1, line0, line1, line2, line3, line4, line5, line6, line7, line8, q_sk1, q_sk2, q_sk3, q_noX, q_hold1, q_hold2, q_frz1, id, q_goS, q_sv1, q_sv2, q_sv3, q_ub1, q_ub2, q_pv, parS, parS3, Nat.reduceLT, Nat.reduceLeDiff, q_andK, q_orK, q_chnK, q_ite1, q_ite2, q_ite3, q_ite4, q_ite5, decide_eq_true_eq, Bool.not_eq_true', decide_eq_false_iff_not, q_add, q_sub, q_lt, q_le, q_gt, q_ge, q_eqI, q_neI, q_len1, q_len2, q_int1, q_int2, q_min, q_max, q_tup1, q_tup2, q_lst1, q_lst2, q_subL, q_subT, q_slL, q_slT, argE, List.getElem?_cons_zero, List.getElem?_cons_succ, List.getElem?_nil, List.map_cons, List.map_nil, List.replicate, List.nil_append, List.cons_append, List.append_nil, Option.map_some, Option.map_none, if_true, if_false, reduceIte, List.length_cons, List.length_nil, Nat.reduceAdd, Nat.reduceSub, List.mapM_cons, List.mapM_nil, Option.bind_eq_bind, Option.bind_some, Option.pure_def, atI_lit, List.set_cons_zero, List.set_cons_succ, q_as1, q_as2, q_as3, q_as4, q_as5, q_wp0, q_wp1, q_kp0, q_kp1, q_ed0, q_ed1, Bool.false_eq_true, Bool.not_true, Bool.not_false, web0]) (by omega) (by simp only [e_ev_var, e_ev_cI, e_ev_cS, e_ev_cN, e_ev_cB, e_ev_neg, e_ev_tup, e_ev_lst, e_ev_bin, e_ev_cmp, e_ev_chn, e_ev_and, e_ev_or, e_ev_not, e_ev_ite, e_ev_sub, e_ev_slc, e_ev_rev, e_ev_call, e_ev_bi, e_ev_isi, e_ev_index, e_ev_pop, e_ev_popAt, e_evs_nil, e_evs_cons, e_evAnd_one, e_evAnd_more, e_evOr_one, e_evOr_more, e_evO_no, e_evO_yes, e_evI_seq, e_evI_rng1, e_evI_rng2, e_evI_enm, e_evI_zp, e_xS_asg, e_xS_set, e_xS_par, e_xS_par3, e_xS_exp, e_xS_app, e_xS_ext, e_xS_setIx, e_xS_ret, e_xS_ife, e_xS_pas, e_xS_brk, e_xS_cnt, e_xS_nev, e_xsl_nil, e_xsl_cons, q_bind, q_toS, q_seq1, q_seq2, q_seq3, q_seq4, q_end1, q_end2, q_tst, q_pick, q_ret1, q_ret2, q_ret3, q_dv1, q_dv2, q_es1, q_es2, q_ea0, q_ea1, q_ea2, q_ea3, q_ec1, line0, line1, line2, line3, line4, line5, line6, line7, line8, q_sk1, q_sk2, q_sk3, q_noX, q_hold1, q_hold2, q_frz1, id, q_goS, q_sv1, q_sv2, q_sv3, q_ub1, q_ub2, q_pv, parS, parS3, Nat.reduceLT, Nat.reduceLeDiff, q_andK, q_orK, q_chnK, q_ite1, q_ite2, q_ite3, q_ite4, q_ite5, decide_eq_true_eq, Bool.not_eq_true', decide_eq_false_iff_not, q_add, q_sub, q_lt, q_le, q_gt, q_ge, q_eqI, q_neI, q_len1, q_len2, q_int1, q_int2, q_min, q_max, q_tup1, q_tup2, q_lst1, q_lst2, q_subL, q_subT, q_slL, q_slT, argE, List.getElem?_cons_zero, List.getElem?_cons_succ, List.getElem?_nil, List.map_cons, List.map_nil, List.replicate, List.nil_append, List.cons_append, List.append_nil, Option.map_some, Option.map_none, if_true, if_false, reduceIte, List.length_cons, List.length_nil, Nat.reduceAdd, Nat.reduceSub, List.mapM_cons, List.mapM_nil, Option.bind_eq_bind, Option.bind_some, Option.pure_def, atI_lit, List.set_cons_zero, List.set_cons_succ, q_as1, q_as2, q_as3, q_as4, q_as5, q_wp0, q_wp1, q_kp0, q_kp1, q_ed0, q_ed1, Bool.false_eq_true, Bool.not_true, Bool.not_false, web0]) (by omega)
    · rintro b hb env ⟨x4, rfl⟩
      have hbn : b < n := by
        rw [List.mem_range'] at hb
        omega
      refine ⟨[some (.fz (webD n ts)), some (.fz (plD ps)), x2, some (.fz (.int (a : Nat))), some (.fz (.int (b : Nat))), none, none, none], by simp only [e_ev_var, e_ev_cI, e_ev_cS, e_ev_cN, e_ev_cB, e_ev_neg, e_ev_tup, e_ev_lst, e_ev_bin, e_ev_cmp, e_ev_chn, e_ev_and, e_ev_or, e_ev_not, e_ev_ite, e_ev_sub, e_ev_slc, e_ev_rev, e_ev_call, e_ev_bi, e_ev_isi, e_ev_index, e_ev_pop, e_ev_popAt, e_evs_nil, e_evs_cons, e_evAnd_one, e_evAnd_more, e_evOr_one, e_evOr_more, e_evO_no, e_evO_yes, e_evI_seq, e_evI_rng1, e_evI_rng2, e_evI_enm, e_evI_zp, e_xS_asg, e_xS_set, e_xS_par, e_xS_par3, e_xS_exp, e_xS_app, e_xS_ext, e_xS_setIx, e_xS_ret, e_xS_ife, e_xS_pas, e_xS_brk, e_xS_cnt, e_xS_nev, e_xsl_nil, e_xsl_cons, q_bind, q_toS, q_seq1, q_seq2, q_seq3, q_seq4, q_end1, q_end2, q_tst, q_pick, q_ret1, q_ret2, q_ret3, q_dv1, q_dv2, q_es1, q_es2, q_ea0, q_ea1, q_ea2, q_ea3, q_ec1, line0, line1, line2, line3, line4, line5, line6, line7, line8, q_sk1, q_sk2, q_sk3, q_noX, q_hold1, q_hold2, q_frz1, id, q_goS, q_sv1, q_sv2, q_sv3, q_ub1, q_ub2, q_pv, parS, parS3, Nat.reduceLT, Nat.reduceLeDiff, q_andK, q_orK, q_chnK, q_ite1, q_ite2, q_ite3, q_ite4, q_ite5, decide_eq_true_eq, Bool.not_eq_true', decide_eq_false_iff_not, q_add, q_sub, q_lt, q_le, q_gt, q_ge, q_eqI, q_neI, q_len1, q_len2, q_int1, q_int2, q_min, q_max, q_tup1, q_tup2, q_lst1, q_lst2, q_subL, q_subT, q_slL, q_slT, argE, List.getElem?_cons_zero, List.getElem?_cons_succ, List.getElem?_nil, List.map_cons, List.map_nil, List.replicate, List.nil_append, List.cons_append, List.append_nil, Option.map_some, Option.map_none, if_true, if_false, reduceIte, List.length_cons, List.length_nil, Nat.reduceAdd, Nat.reduceSub, List.mapM_cons, List.mapM_nil, Option.bind_eq_bind, Option.bind_some, Option.pure_def, atI_lit, List.set_cons_zero, List.set_cons_succ, q_as1, q_as2, q_as3, q_as4, q_as5, q_wp0, q_wp1, q_kp0, q_kp1, q_ed0, q_ed1, Bool.false_eq_true, Bool.not_true, Bool.not_false], ?_⟩
      unfold sameOf
      by_cases c : at_ ps a = at_ ps b
      · rw [if_pos c]
        simp only [e_ev_var, e_ev_cI, e_ev_cS, e_ev_cN, e_ev_cB, e_ev_neg, e_ev_tup, e_ev_lst, e_ev_bin, e_ev_cmp, e_ev_chn, e_ev_and, e_ev_or, e_ev_not, e_ev_ite, e_ev_sub, e_ev_slc, e_ev_rev, e_ev_call, e_ev_bi, e_ev_isi, e_ev_index, e_ev_pop, e_ev_popAt, e_evs_nil, e_evs_cons, e_evAnd_one, e_evAnd_more, e_evOr_one, e_evOr_more, e_evO_no, e_evO_yes, e_evI_seq, e_evI_rng1, e_evI_rng2, e_evI_enm, e_evI_zp, e_xS_asg, e_xS_set, e_xS_par, e_xS_par3, e_xS_exp, e_xS_app, e_xS_ext, e_xS_setIx, e_xS_ret, e_xS_ife, e_xS_pas, e_xS_brk, e_xS_cnt, e_xS_nev, e_xsl_nil, e_xsl_cons, q_bind, q_toS, q_seq1, q_seq2, q_seq3, q_seq4, q_end1, q_end2, q_tst, q_pick, q_ret1, q_ret2, q_ret3, q_dv1, q_dv2, q_es1, q_es2, q_ea0, q_ea1, q_ea2, q_ea3, q_ec1, line0, line1, line2, line3, line4, line5, line6, line7, line8, q_sk1, q_sk2, q_sk3, q_noX, q_hold1, q_hold2, q_frz1, id, q_goS, q_sv1, q_sv2, q_sv3, q_ub1, q_ub2, q_pv, parS, parS3, Nat.reduceLT, Nat.reduceLeDiff, q_andK, q_orK, q_chnK, q_ite1, q_ite2, q_ite3, q_ite4, q_ite5, decide_eq_true_eq, Bool.not_eq_true', decide_eq_false_iff_not, q_add, q_sub, q_lt, q_le, q_gt, q_ge, q_eqI, q_neI, q_len1, q_len2, q_int1, q_int2, q_min, q_max, q_tup1, q_tup2, q_lst1, q_lst2, q_subL, q_subT, q_slL, q_slT, argE, List.getElem?_cons_zero, List.getElem?_cons_succ, List.getElem?_nil, List.map_cons, List.map_nil, List.replicate, List.nil_append, List.cons_append, List.append_nil, Option.map_some, Option.map_none, if_true, if_false, reduceIte, List.length_cons, List.length_nil, Nat.reduceAdd, Nat.reduceSub, List.mapM_cons, List.mapM_nil, Option.bind_eq_bind, Option.bind_some, Option.pure_def, atI_lit, List.set_cons_zero, List.set_cons_succ, q_as1, q_as2, q_as3, q_as4, q_as5, q_wp0, q_wp1, q_kp0, q_kp1, q_ed0, q_ed1, Bool.false_eq_true, Bool.not_true, Bool.not_false, pl_at' o han, pl_at' o hbn, eq_pt, c]
      · rw [if_neg c]
        refine ⟨[some (.fz (webD n ts)), some (.fz (plD ps)), x2, some (.fz (.int (a : Nat))), some (.fz (.int (b : Nat))), none, none, none], ?_, _, rfl⟩
        simp only [e_ev_var, e_ev_cI, e_ev_cS, e_ev_cN, e_ev_cB, e_ev_neg, e_ev_tup, e_ev_lst, e_ev_bin, e_ev_cmp, e_ev_chn, e_ev_and, e_ev_or, e_ev_not, e_ev_ite, e_ev_sub, e_ev_slc, e_ev_rev, e_ev_call, e_ev_bi, e_ev_isi, e_ev_index, e_ev_pop, e_ev_popAt, e_evs_nil, e_evs_cons, e_evAnd_one, e_evAnd_more, e_evOr_one, e_evOr_more, e_evO_no, e_evO_yes, e_evI_seq, e_evI_rng1, e_evI_rng2, e_evI_enm, e_evI_zp, e_xS_asg, e_xS_set, e_xS_par, e_xS_par3, e_xS_exp, e_xS_app, e_xS_ext, e_xS_setIx, e_xS_ret, e_xS_ife, e_xS_pas, e_xS_brk, e_xS_cnt, e_xS_nev, e_xsl_nil, e_xsl_cons, q_bind, q_toS, q_seq1, q_seq2, q_seq3, q_seq4, q_end1, q_end2, q_tst, q_pick, q_ret1, q_ret2, q_ret3, q_dv1, q_dv2, q_es1, q_es2, q_ea0, q_ea1, q_ea2, q_ea3, q_ec1, line0, line1, line2, line3, line4, line5, line6, line7, line8, q_sk1, q_sk2, q_sk3, q_noX, q_hold1, q_hold2, q_frz1, id, q_goS, q_sv1, q_sv2, q_sv3, q_ub1, q_ub2, q_pv, parS, parS3, Nat.reduceLT, Nat.reduceLeDiff, q_andK, q_orK, q_chnK, q_ite1, q_ite2, q_ite3, q_ite4, q_ite5, decide_eq_true_eq, Bool.not_eq_true', decide_eq_false_iff_not, q_add, q_sub, q_lt, q_le, q_gt, q_ge, q_eqI, q_neI, q_len1, q_len2, q_int1, q_int2, q_min, q_max, q_tup1, q_tup2, q_lst1, q_lst2, q_subL, q_subT, q_slL, q_slT, argE, List.getElem?_cons_zero, List.getElem?_cons_succ, List.getElem?_nil, List.map_cons, List.map_nil, List.replicate, List.nil_append, List.cons_append, List.append_nil, Option.map_some, Option.map_none, if_true, if_false, reduceIte, List.length_cons, List.length_nil, Nat.reduceAdd, Nat.reduceSub, List.mapM_cons, List.mapM_nil, Option.bind_eq_bind, Option.bind_some, Option.pure_def, atI_lit, List.set_cons_zero, List.set_cons_succ, q_as1, q_as2, q_as3, q_as4, q_as5, q_wp0, q_wp1, q_kp0, q_kp1, q_ed0, q_ed1, Bool.false_eq_true, Bool.not_true, Bool.not_false, pl_at' o han, pl_at' o hbn, eq_pt, c]
theorem lf3 {fn : Fns} {w : Wd} (hB : ∀ p q r, SmP p → SmP q → SmP r → fn 11 [.fz (pt p), .fz (pt q), .fz (pt r)] w = .ok (.fz (.bool (liesZ p q r))) w) {n : Nat} {ts : List Tie} {ps : List Pt} (o : Ok n ts ps) (x2 x3 x4 : Option EV) : match onAll n ts ps with
      | some v => xS fn (.for_ (.nm 5) (.rng1 (.sub (.var 0) (.cI 0))) (.cons (.for_ (.tp (.cons (.nm 3) (.cons (.nm 4) .nil))) (.seq (.sub (.var 0) (.cI 1))) (.cons (.ife (.and (.cons (.cmp .ne (.var 5) (.var 3)) (.cons (.cmp .ne (.var 5) (.var 4)) (.cons (.call 11 (.cons (.sub (.var 1) (.var 3)) (.cons (.sub (.var 1) (.var 4)) (.cons (.sub (.var 1) (.var 5)) .nil)))) .nil)))) (.cons (.ret (.tup (.cons (.cS "on") (.cons (.var 5) (.cons (.var 3) (.cons (.var 4) .nil)))))) .nil) .nil) .nil)) .nil)) [some (.fz (webD n ts)), some (.fz (plD ps)), x2, x3, x4, none, none, none] w = .rt v w
      | none => ∃ e2, xS fn (.for_ (.nm 5) (.rng1 (.sub (.var 0) (.cI 0))) (.cons (.for_ (.tp (.cons (.nm 3) (.cons (.nm 4) .nil))) (.seq (.sub (.var 0) (.cI 1))) (.cons (.ife (.and (.cons (.cmp .ne (.var 5) (.var 3)) (.cons (.cmp .ne (.var 5) (.var 4)) (.cons (.call 11 (.cons (.sub (.var 1) (.var 3)) (.cons (.sub (.var 1) (.var 4)) (.cons (.sub (.var 1) (.var 5)) .nil)))) .nil)))) (.cons (.ret (.tup (.cons (.cS "on") (.cons (.var 5) (.cons (.var 3) (.cons (.var 4) .nil)))))) .nil) .nil) .nil)) .nil)) [some (.fz (webD n ts)), some (.fz (plD ps)), x2, x3, x4, none, none, none] w = .nx e2 w ∧ ∃ x3 x4 x5 : Option EV, e2 = [some (.fz (webD n ts)), some (.fz (plD ps)), x2, x3, x4, x5, none, none] := by
  have n9 := o.n9
  refine xS_findM (g := fun i : Nat => .int (i : Nat)) (r := []) (e1 := [some (.fz (webD n ts)), some (.fz (plD ps)), x2, x3, x4, none, none, none]) (J := fun e => ∃ x3 x4 x5 : Option EV, e = [some (.fz (webD n ts)), some (.fz (plD ps)), x2, x3, x4, x5, none, none]) (f := onIn ts ps) (List.range n) ?_ ⟨_, _, _, rfl⟩ ?_
  · rw [← rng0_map]
    exact evI_rng1N (by simp only [e_ev_var, e_ev_cI, e_ev_cS, e_ev_cN, e_ev_cB, e_ev_neg, e_ev_tup, e_ev_lst, e_ev_bin, e_ev_cmp, e_ev_chn, e_ev_and, e_ev_or, e_ev_not, e_ev_ite, e_ev_sub, e_ev_slc, e_ev_rev, e_ev_call, e_ev_bi, e_ev_isi, e_ev_index, e_ev_pop, e_ev_popAt, e_evs_nil, e_evs_cons, e_evAnd_one, e_evAnd_more, e_evOr_one, e_evOr_more, e_evO_no, e_evO_yes, e_evI_seq, e_evI_rng1, e_evI_rng2, e_evI_enm, e_evI_zp, e_xS_asg, e_xS_set, e_xS_par, e_xS_par3, e_xS_exp, e_xS_app, e_xS_ext, e_xS_setIx, e_xS_ret, e_xS_ife, e_xS_pas, e_xS_brk, e_xS_cnt, e_xS_nev, e_xsl_nil, e_xsl_cons, q_bind, q_toS, q_seq1, q_seq2, q_seq3, q_seq4, q_end1, q_end2, q_tst, q_pick, q_ret1, q_ret2, q_ret3, q_dv1, q_dv2, q_es1, q_es2, q_ea0, q_ea1, q_ea2, q_ea3, q_ec1, line0, line1, line2, line3, line4, line5, line6, line7, line8, q_sk1, q_sk2, q_sk3, q_noX, q_hold1, q_hold2, q_frz1, id, q_goS, q_sv1, q_sv2, q_sv3, q_ub1, q_ub2, q_pv, parS, parS3, Nat.reduceLT, Nat.reduceLeDiff, q_andK, q_orK, q_chnK, q_ite1, q_ite2, q_ite3, q_ite4, q_ite5, decide_eq_true_eq, Bool.not_eq_true', decide_eq_false_iff_not, q_add, q_sub, q_lt, q_le, q_gt, q_ge, q_eqI, q_neI, q_len1, q_len2, q_int1, q_int2, q_min, q_max, q_tup1, q_tup2, q_lst1, q_lst2, q_subL, q_subT, q_slL, q_slT, argE, List.getElem?_cons_zero, List.getElem?_cons_succ, List.getElem?_nil, List.map_cons, List.map_nil, List.replicate, List.nil_append, List.cons_append, List.append_nil, Option.map_some, Option.map_none, if_true, if_false, reduceIte, List.length_cons, List.length_nil, Nat.reduceAdd, Nat.reduceSub, List.mapM_cons, List.mapM_nil, Option.bind_eq_bind, Option.bind_some, Option.pure_def, atI_lit, List.set_cons_zero, List.set_cons_succ, q_as1, q_as2, q_as3, q_as4, q_as5, q_wp0, q_wp1, q_kp0, q_kp1, q_ed0, q_ed1, Bool.false_eq_true, Bool.not_true, Bool.not_false, web0]) (by omega)
  · rintro a ha env ⟨x3, x4, x5, rfl⟩
    have han : a < n := by simpa using ha
    refine ⟨[some (.fz (webD n ts)), some (.fz (plD ps)), x2, x3, x4, some (.fz (.int (a : Nat))), none, none], by simp only [e_ev_var, e_ev_cI, e_ev_cS, e_ev_cN, e_ev_cB, e_ev_neg, e_ev_tup, e_ev_lst, e_ev_bin, e_ev_cmp, e_ev_chn, e_ev_and, e_ev_or, e_ev_not, e_ev_ite, e_ev_sub, e_ev_slc, e_ev_rev, e_ev_call, e_ev_bi, e_ev_isi, e_ev_index, e_ev_pop, e_ev_popAt, e_evs_nil, e_evs_cons, e_evAnd_one, e_evAnd_more, e_evOr_one, e_evOr_more, e_evO_no, e_evO_yes, e_evI_seq, e_evI_rng1, e_evI_rng2, e_evI_enm, e_evI_zp, e_xS_asg, e_xS_set, e_xS_par, e_xS_par3, e_xS_exp, e_xS_app, e_xS_ext, e_xS_setIx, e_xS_ret, e_xS_ife, e_xS_pas, e_xS_brk, e_xS_cnt, e_xS_nev, e_xsl_nil, e_xsl_cons, q_bind, q_toS, q_seq1, q_seq2, q_seq3, q_seq4, q_end1, q_end2, q_tst, q_pick, q_ret1, q_ret2, q_ret3, q_dv1, q_dv2, q_es1, q_es2, q_ea0, q_ea1, q_ea2, q_ea3, q_ec1, line0, line1, line2, line3, line4, line5, line6, line7, line8, q_sk1, q_sk2, q_sk3, q_noX, q_hold1, q_hold2, q_frz1, id, q_goS, q_sv1, q_sv2, q_sv3, q_ub1, q_ub2, q_pv, parS, parS3, Nat.reduceLT, Nat.reduceLeDiff, q_andK, q_orK, q_chnK, q_ite1, q_ite2, q_ite3, q_ite4, q_ite5, decide_eq_true_eq, Bool.not_eq_true', decide_eq_false_iff_not, q_add, q_sub, q_lt, q_le, q_gt, q_ge, q_eqI, q_neI, q_len1, q_len2, q_int1, q_int2, q_min, q_max, q_tup1, q_tup2, q_lst1, q_lst2, q_subL, q_subT, q_slL, q_slT, argE, List.getElem?_cons_zero, List.getElem?_cons_succ, List.getElem?_nil, List.map_cons, List.map_nil, List.replicate, List.nil_append, List.cons_append, List.append_nil, Option.map_some, Option.map_none, if_true, if_false, reduceIte, List.length_cons, List.length_nil, Nat.reduceAdd, Nat.reduceSub, List.mapM_cons, List.mapM_nil, Option.bind_eq_bind, Option.bind_some, Option.pure_def, atI_lit, List.set_cons_zero, List.set_cons_succ, q_as1, q_as2, q_as3, q_as4, q_as5, q_wp0, q_wp1, q_kp0, q_kp1, q_ed0, q_ed1, Bool.false_eq_true, Bool.not_true, Bool.not_false], ?_⟩
    have I := xS_findM (fn := fn) (w := w) (env := [some (.fz (webD n ts)), some (.fz (plD ps)), x2, x3, x4, some (.fz (.int (a : Nat))), none, none]) (tg := (.tp (.cons (.nm 3) (.cons (.nm 4) .nil)))) (it := (.seq (.sub (.var 0) (.cI 1)))) (b := (.cons (.ife (.and (.cons (.cmp .ne (.var 5) (.var 3)) (.cons (.cmp .ne (.var 5) (.var 4)) (.cons (.call 11 (.cons (.sub (.var 1) (.var 3)) (.cons (.sub (.var 1) (.var 4)) (.cons (.sub (.var 1) (.var 5)) .nil)))) .nil)))) (.cons (.ret (.tup (.cons (.cS "on") (.cons (.var 5) (.cons (.var 3) (.cons (.var 4) .nil)))))) .nil) .nil) .nil))
      (g := tieD) (r := []) (e1 := [some (.fz (webD n ts)), some (.fz (plD ps)), x2, x3, x4, some (.fz (.int (a : Nat))), none, none]) (f := onOf ps a) (J := fun e => ∃ x3 x4 : Option EV, e = [some (.fz (webD n ts)), some (.fz (plD ps)), x2, x3, x4, some (.fz (.int (a : Nat))), none, none]) ts ?_ ⟨_, _, rfl⟩ ?_
    · unfold onIn
      cases q : ts.findSome? (onOf ps a) with
      | some v =>
        rw [q] at I
        exact xsl_rt I
      | none =>
        rw [q] at I
        obtain ⟨e2, h1, x3', x4', h2⟩ := I
        exact ⟨e2, by rw [xsl_nx h1, e_xsl_nil], _, _, _, h2⟩
    · simp only [e_ev_var, e_ev_cI, e_ev_cS, e_ev_cN, e_ev_cB, e_ev_neg, e_ev_tup, e_ev_lst, e_ev_bin, e_ev_cmp, e_ev_chn, e_ev_and, e_ev_or, e_ev_not, e_ev_ite, e_ev_sub, e_ev_slc, e_ev_rev, e_ev_call, e_ev_bi, e_ev_isi, e_ev_index, e_ev_pop, e_ev_popAt, e_evs_nil, e_evs_cons, e_evAnd_one, e_evAnd_more, e_evOr_one, e_evOr_more, e_evO_no, e_evO_yes, e_evI_seq, e_evI_rng1, e_evI_rng2, e_evI_enm, e_evI_zp, e_xS_asg, e_xS_set, e_xS_par, e_xS_par3, e_xS_exp, e_xS_app, e_xS_ext, e_xS_setIx, e_xS_ret, e_xS_ife, e_xS_pas, e_xS_brk, e_xS_cnt, e_xS_nev, e_xsl_nil, e_xsl_cons, q_bind, q_toS, q_seq1, q_seq2, q_seq3, q_seq4, q_end1, q_end2, q_tst, q_pick, q_ret1, q_ret2, q_ret3, q_dv1, q_dv2, q_es1, q_es2, q_ea0, q_ea1, q_ea2, q_ea3, q_ec1, line0, line1, line2, line3, line4, line5, line6, line7, line8, q_sk1, q_sk2, q_sk3, q_noX, q_hold1, q_hold2, q_frz1, id, q_goS, q_sv1, q_sv2, q_sv3, q_ub1, q_ub2, q_pv, parS, parS3, Nat.reduceLT, Nat.reduceLeDiff, q_andK, q_orK, q_chnK, q_ite1, q_ite2, q_ite3, q_ite4, q_ite5, decide_eq_true_eq, Bool.not_eq_true', decide_eq_false_iff_not, q_add, q_sub, q_lt, q_le, q_gt, q_ge, q_eqI, q_neI, q_len1, q_len2, q_int1, q_int2, q_min, q_max, q_tup1, q_tup2, q_lst1, q_lst2, q_subL, q_subT, q_slL, q_slT, argE, List.getElem?_cons_zero, List.getElem?_cons_succ, List.getElem?_nil, List.map_cons, List.map_nil, List.replicate, List.nil_append, List.cons_append, List.append_nil, Option.map_some, Option.map_none, if_true, if_false, reduceIte, List.length_cons, List.length_nil, Nat.reduceAdd, Nat.reduceSub, List.mapM_cons, List.mapM_nil, Option.bind_eq_bind, Option.bind_some, Option.pure_def, atI_lit, List.set_cons_zero, List.set_cons_succ, q_as1, q_as2, q_as3, q_as4, q_as5, q_wp0, q_wp1, q_kp0, q_kp1, q_ed0, q_ed1, Bool.false_eq_true, Bool.not_true, Bool.not_false, web1']
    · rintro t ht env ⟨x3, x4, rfl⟩
      have htt := o.tie t ht
      refine ⟨[some (.fz (webD n ts)), some (.fz (plD ps)), x2, some (.fz (.int (t.1 : Nat))), some (.fz (.int (t.2 : Nat))), some (.fz (.int (a : Nat))), none, none], by simp only [tieD, e_ev_var, e_ev_cI, e_ev_cS, e_ev_cN, e_ev_cB, e_ev_neg, e_ev_tup, e_ev_lst, e_ev_bin, e_ev_cmp, e_ev_chn, e_ev_and, e_ev_or, e_ev_not, e_ev_ite, e_ev_sub, e_ev_slc, e_ev_rev, e_ev_call, e_ev_bi, e_ev_isi, e_ev_index, e_ev_pop, e_ev_popAt, e_evs_nil, e_evs_cons, e_evAnd_one, e_evAnd_more, e_evOr_one, e_evOr_more, e_evO_no, e_evO_yes, e_evI_seq, e_evI_rng1, e_evI_rng2, e_evI_enm, e_evI_zp, e_xS_asg, e_xS_set, e_xS_par, e_xS_par3, e_xS_exp, e_xS_app, e_xS_ext, e_xS_setIx, e_xS_ret, e_xS_ife, e_xS_pas, e_xS_brk, e_xS_cnt, e_xS_nev, e_xsl_nil, e_xsl_cons, q_bind, q_toS, q_seq1, q_seq2, q_seq3, q_seq4, q_end1, q_end2, q_tst, q_pick, q_ret1, q_ret2, q_ret3, q_dv1, q_dv2, q_es1, q_es2, q_ea0, q_ea1, q_ea2, q_ea3, q_ec1, line0, line1, line2, line3, line4, line5, line6, line7, line8, q_sk1, q_sk2, q_sk3, q_noX, q_hold1, q_hold2, q_frz1, id, q_goS, q_sv1, q_sv2, q_sv3, q_ub1, q_ub2, q_pv, parS, parS3, Nat.reduceLT, Nat.reduceLeDiff, q_andK, q_orK, q_chnK, q_ite1, q_ite2, q_ite3, q_ite4, q_ite5, decide_eq_true_eq, Bool.not_eq_true', decide_eq_false_iff_not, q_add, q_sub, q_lt, q_le, q_gt, q_ge, q_eqI, q_neI, q_len1, q_len2, q_int1, q_int2, q_min, q_max, q_tup1, q_tup2, q_lst1, q_lst2, q_subL, q_subT, q_slL, q_slT, argE, List.getElem?_cons_zero, List.getElem?_cons_succ, List.getElem?_nil, List.map_cons, List.map_nil, List.replicate, List.nil_append, List.cons_append, List.append_nil, Option.map_some, Option.map_none, if_true, if_false, reduceIte, List.length_cons, List.length_nil, Nat.reduceAdd, Nat.reduceSub, List.mapM_cons, List.mapM_nil, Option.bind_eq_bind, Option.bind_some, Option.pure_def, atI_lit, List.set_cons_zero, List.set_cons_succ, q_as1, q_as2, q_as3, q_as4, q_as5, q_wp0, q_wp1, q_kp0, q_kp1, q_ed0, q_ed1, Bool.false_eq_true, Bool.not_true, Bool.not_false], ?_⟩
      have hb := hB _ _ _ (o.at htt.1) (o.at htt.2) (o.at han)
      rw [← lies_eq] at hb
      unfold onOf
      by_cases c : a ≠ t.1 ∧ a ≠ t.2
      · have c1 : ¬ ((a : Nat) : Int) = (t.1 : Nat) := by omega
        have c2 : ¬ ((a : Nat) : Int) = (t.2 : Nat) := by omega
        cases d : betwZ (at_ ps t.1) (at_ ps t.2) (at_ ps a) with
        | true =>
          rw [if_pos ⟨c, rfl⟩]
          rw [d] at hb
          simp only [e_ev_var, e_ev_cI, e_ev_cS, e_ev_cN, e_ev_cB, e_ev_neg, e_ev_tup, e_ev_lst, e_ev_bin, e_ev_cmp, e_ev_chn, e_ev_and, e_ev_or, e_ev_not, e_ev_ite, e_ev_sub, e_ev_slc, e_ev_rev, e_ev_call, e_ev_bi, e_ev_isi, e_ev_index, e_ev_pop, e_ev_popAt, e_evs_nil, e_evs_cons, e_evAnd_one, e_evAnd_more, e_evOr_one, e_evOr_more, e_evO_no, e_evO_yes, e_evI_seq, e_evI_rng1, e_evI_rng2, e_evI_enm, e_evI_zp, e_xS_asg, e_xS_set, e_xS_par, e_xS_par3, e_xS_exp, e_xS_app, e_xS_ext, e_xS_setIx, e_xS_ret, e_xS_ife, e_xS_pas, e_xS_brk, e_xS_cnt, e_xS_nev, e_xsl_nil, e_xsl_cons, q_bind, q_toS, q_seq1, q_seq2, q_seq3, q_seq4, q_end1, q_end2, q_tst, q_pick, q_ret1, q_ret2, q_ret3, q_dv1, q_dv2, q_es1, q_es2, q_ea0, q_ea1, q_ea2, q_ea3, q_ec1, line0, line1, line2, line3, line4, line5, line6, line7, line8, q_sk1, q_sk2, q_sk3, q_noX, q_hold1, q_hold2, q_frz1, id, q_goS, q_sv1, q_sv2, q_sv3, q_ub1, q_ub2, q_pv, parS, parS3, Nat.reduceLT, Nat.reduceLeDiff, q_andK, q_orK, q_chnK, q_ite1, q_ite2, q_ite3, q_ite4, q_ite5, decide_eq_true_eq, Bool.not_eq_true', decide_eq_false_iff_not, q_add, q_sub, q_lt, q_le, q_gt, q_ge, q_eqI, q_neI, q_len1, q_len2, q_int1, q_int2, q_min, q_max, q_tup1, q_tup2, q_lst1, q_lst2, q_subL, q_subT, q_slL, q_slT, argE, List.getElem?_cons_zero, List.getElem?_cons_succ, List.getElem?_nil, List.map_cons, List.map_nil, List.replicate, List.nil_append, List.cons_append, List.append_nil, Option.map_some, Option.map_none, if_true, if_false, reduceIte, List.length_cons, List.length_nil, Nat.reduceAdd, Nat.reduceSub, List.mapM_cons, List.mapM_nil, Option.bind_eq_bind, Option.bind_some, Option.pure_def, atI_lit, List.set_cons_zero, List.set_cons_succ, q_as1, q_as2, q_as3, q_as4, q_as5, q_wp0, q_wp1, q_kp0, q_kp1, q_ed0, q_ed1, Bool.false_eq_true, Bool.not_true, Bool.not_false, pl_at' o han, pl_at' o htt.1, pl_at' o htt.2, hb, c1, c2, not_false_eq_true, decide_false]
        | false =>
          rw [if_neg (by simp)]
          rw [d] at hb
          refine ⟨[some (.fz (webD n ts)), some (.fz (plD ps)), x2, some (.fz (.int (t.1 : Nat))), some (.fz (.int (t.2 : Nat))), some (.fz (.int (a : Nat))), none, none], ?_, _, _, rfl⟩
          simp only [e_ev_var, e_ev_cI, e_ev_cS, e_ev_cN, e_ev_cB, e_ev_neg, e_ev_tup, e_ev_lst, e_ev_bin, e_ev_cmp, e_ev_chn, e_ev_and, e_ev_or, e_ev_not, e_ev_ite, e_ev_sub, e_ev_slc, e_ev_rev, e_ev_call, e_ev_bi, e_ev_isi, e_ev_index, e_ev_pop, e_ev_popAt, e_evs_nil, e_evs_cons, e_evAnd_one, e_evAnd_more, e_evOr_one, e_evOr_more, e_evO_no, e_evO_yes, e_evI_seq, e_evI_rng1, e_evI_rng2, e_evI_enm, e_evI_zp, e_xS_asg, e_xS_set, e_xS_par, e_xS_par3, e_xS_exp, e_xS_app, e_xS_ext, e_xS_setIx, e_xS_ret, e_xS_ife, e_xS_pas, e_xS_brk, e_xS_cnt, e_xS_nev, e_xsl_nil, e_xsl_cons, q_bind, q_toS, q_seq1, q_seq2, q_seq3, q_seq4, q_end1, q_end2, q_tst, q_pick, q_ret1, q_ret2, q_ret3, q_dv1, q_dv2, q_es1, q_es2, q_ea0, q_ea1, q_ea2, q_ea3, q_ec1, line0, line1, line2, line3, line4, line5, line6, line7, line8, q_sk1, q_sk2, q_sk3, q_noX, q_hold1, q_hold2, q_frz1, id, q_goS, q_sv1, q_sv2, q_sv3, q_ub1, q_ub2, q_pv, parS, parS3, Nat.reduceLT, Nat.reduceLeDiff, q_andK, q_orK, q_chnK, q_ite1, q_ite2, q_ite3, q_ite4, q_ite5, decide_eq_true_eq, Bool.not_eq_true', decide_eq_false_iff_not, q_add, q_sub, q_lt, q_le, q_gt, q_ge, q_eqI, q_neI, q_len1, q_len2, q_int1, q_int2, q_min, q_max, q_tup1, q_tup2, q_lst1, q_lst2, q_subL, q_subT, q_slL, q_slT, argE, List.getElem?_cons_zero, List.getElem?_cons_succ, List.getElem?_nil, List.map_cons, List.map_nil, List.replicate, List.nil_append, List.cons_append, List.append_nil, Option.map_some, Option.map_none, if_true, if_false, reduceIte, List.length_cons, List.length_nil, Nat.reduceAdd, Nat.reduceSub, List.mapM_cons, List.mapM_nil, Option.bind_eq_bind, Option.bind_some, Option.pure_def, atI_lit, List.set_cons_zero, List.set_cons_succ, q_as1, q_as2, q_as3, q_as4, q_as5, q_wp0, q_wp1, q_kp0, q_kp1, q_ed0, q_ed1, Bool.false_eq_true, Bool.not_true, Bool.not_false, pl_at' o han, pl_at' o htt.1, pl_at' o htt.2, hb, c1, c2, not_false_eq_true, decide_false]
      · rw [if_neg (fun h => c h.1)]
        refine ⟨[some (.fz (webD n ts)), some (.fz (plD ps)), x2, some (.fz (.int (t.1 : Nat))), some (.fz (.int (t.2 : Nat))), some (.fz (.int (a : Nat))), none, none], ?_, _, _, rfl⟩
        by_cases c1 : ((a : Nat) : Int) = (t.1 : Nat)
        · simp only [e_ev_var, e_ev_cI, e_ev_cS, e_ev_cN, e_ev_cB, e_ev_neg, e_ev_tup, e_ev_lst, e_ev_bin, e_ev_cmp, e_ev_chn, e_ev_and, e_ev_or, e_ev_not, e_ev_ite, e_ev_sub, e_ev_slc, e_ev_rev, e_ev_call, e_ev_bi, e_ev_isi, e_ev_index, e_ev_pop, e_ev_popAt, e_evs_nil, e_evs_cons, e_evAnd_one, e_evAnd_more, e_evOr_one, e_evOr_more, e_evO_no, e_evO_yes, e_evI_seq, e_evI_rng1, e_evI_rng2, e_evI_enm, e_evI_zp, e_xS_asg, e_xS_set, e_xS_par, e_xS_par3, e_xS_exp, e_xS_app, e_xS_ext, e_xS_setIx, e_xS_ret, e_xS_ife, e_xS_pas, e_xS_brk, e_xS_cnt, e_xS_nev, e_xsl_nil, e_xsl_cons, q_bind, q_toS, q_seq1, q_seq2, q_seq3, q_seq4, q_end1, q_end2, q_tst, q_pick, q_ret1, q_ret2, q_ret3, q_dv1, q_dv2, q_es1, q_es2, q_ea0, q_ea1, q_ea2, q_ea3, q_ec1, line0, line1, line2, line3, line4, line5, line6, line7, line8, q_sk1, q_sk2, q_sk3, q_noX, q_hold1, q_hold2, q_frz1, id, q_goS, q_sv1, q_sv2, q_sv3, q_ub1, q_ub2, q_pv, parS, parS3, Nat.reduceLT, Nat.reduceLeDiff, q_andK, q_orK, q_chnK, q_ite1, q_ite2, q_ite3, q_ite4, q_ite5, decide_eq_true_eq, Bool.not_eq_true', decide_eq_false_iff_not, q_add, q_sub, q_lt, q_le, q_gt, q_ge, q_eqI, q_neI, q_len1, q_len2, q_int1, q_int2, q_min, q_max, q_tup1, q_tup2, q_lst1, q_lst2, q_subL, q_subT, q_slL, q_slT, argE, List.getElem?_cons_zero, List.getElem?_cons_succ, List.getElem?_nil, List.map_cons, List.map_nil, List.replicate, List.nil_append, List.cons_append, List.append_nil, Option.map_some, Option.map_none, if_true, if_false, reduceIte, List.length_cons, List.length_nil, Nat.reduceAdd, Nat.reduceSub, List.mapM_cons, List.mapM_nil, Option.bind_eq_bind, Option.bind_some, Option.pure_def, atI_lit, List.set_cons_zero, List.set_cons_succ, q_as1, q_as2, q_as3, q_as4, q_as5, q_wp0, q_wp1, q_kp0, q_kp1, q_ed0, q_ed1, Bool.false_eq_true, Bool.not_true, Bool.not_false, c1, decide_true, decide_false, not_false_eq_true, not_true_eq_false, eq_self]
        · have c2 : ((a : Nat) : Int) = (t.2 : Nat) := by omega
          simp only [e_ev_var, e_ev_cI, e_ev_cS, e_ev_cN, e_ev_cB, e_ev_neg, e_ev_tup, e_ev_lst, e_ev_bin, e_ev_cmp, e_ev_chn, e_ev_and, e_ev_or, e_ev_not, e_ev_ite, e_ev_sub, e_ev_slc, e_ev_rev, e_ev_call, e_ev_bi, e_ev_isi, e_ev_index, e_ev_pop, e_ev_popAt, e_evs_nil, e_evs_cons, e_evAnd_one, e_evAnd_more, e_evOr_one, e_evOr_more, e_evO_no, e_evO_yes, e_evI_seq, e_evI_rng1, e_evI_rng2, e_evI_enm, e_evI_zp, e_xS_asg, e_xS_set, e_xS_par, e_xS_par3, e_xS_exp, e_xS_app, e_xS_ext, e_xS_setIx, e_xS_ret, e_xS_ife, e_xS_pas, e_xS_brk, e_xS_cnt, e_xS_nev, e_xsl_nil, e_xsl_cons, q_bind, q_toS, q_seq1, q_seq2, q_seq3, q_seq4, q_end1, q_end2, q_tst, q_pick, q_ret1, q_ret2, q_ret3, q_dv1, q_dv2, q_es1, q_es2, q_ea0, q_ea1, q_ea2, q_ea3, q_ec1, line0, line1, line2, line3, line4, line5, line6, line7, line8, q_sk1, q_sk2, q_sk3, q_noX, q_hold1, q_hold2, q_frz1, id, q_goS, q_sv1, q_sv2, q_sv3, q_ub1, q_ub2, q_pv, parS, parS3, Nat.reduceLT, Nat.reduceLeDiff, q_andK, q_orK, q_chnK, q_ite1, q_ite2, q_ite3, q_ite4, q_ite5, decide_eq_true_eq, Bool.not_eq_true', decide_eq_false_iff_not, q_add, q_sub, q_lt, q_le, q_gt, q_ge, q_eqI, q_neI, q_len1, q_len2, q_int1, q_int2, q_min, q_max, q_tup1, q_tup2, q_lst1, q_lst2, q_subL, q_subT, q_slL, q_slT, argE, List.getElem?_cons_zero, List.getElem?_cons_succ, List.getElem?_nil, List.map_cons, List.map_nil, List.replicate, List.nil_append, List.cons_append, List.append_nil, Option.map_some, Option.map_none, if_true, if_false, reduceIte, List.length_cons, List.length_nil, Nat.reduceAdd, Nat.reduceSub, List.mapM_cons, List.mapM_nil, Option.bind_eq_bind, Option.bind_some, Option.pure_def, atI_lit, List.set_cons_zero, List.set_cons_succ, q_as1, q_as2, q_as3, q_as4, q_as5, q_wp0, q_wp1, q_kp0, q_kp1, q_ed0, q_ed1, Bool.false_eq_true, Bool.not_true, Bool.not_false, c1, c2, decide_true, decide_false, not_false_eq_true, not_true_eq_false, eq_self]
          split <;> rfl
theorem m_law_fault (k : Nat) (w : Wd) {n : Nat} {ts : List Tie} {ps : List Pt} (o : Ok n ts ps) {d : PyData} (f : Fault n ts ps d) :
    fnAt tab (k + 5) 14 [.fz (webD n ts), .fz (plD ps)] w = .ok (.fz d) w := by
  rw [fnAt_txt t__law_fault (by decide) (k + 4) _ w rfl]
  have hB : ∀ p q r, SmP p → SmP q → SmP r → fnAt tab (k + 4) 11 [.fz (pt p), .fz (pt q), .fz (pt r)] w = .ok (.fz (.bool (liesZ p q r))) w := fun p q r hp hq hr => m_lies (k + 2) w p q r hp hq hr
  have h13 := m_law_meetings k w o
  have len := o.len
  have hne := ne_nilL o
  generalize fnAt tab (k + 4) = fn at *
  obtain ⟨x2, H1⟩ := lf1 fn w o
  have H2 := lf2 fn w o x2
  have H0 : xS fn (.ife (.or (.cons (.not (.isi (.var 1) .tuple)) (.cons (.cmp .ne (.bi .len (.cons (.var 1) .nil)) (.sub (.var 0) (.cI 0))) .nil))) (.cons (.ret (.tup (.cons (.cS "form") .nil))) .nil) .nil) [some (.fz (webD n ts)), some (.fz (plD ps)), none, none, none, none, none, none] w = .nx [some (.fz (webD n ts)), some (.fz (plD ps)), none, none, none, none, none, none] w := by
    have hi : isiD .tuple (plD ps) = true := rfl
    have hl : biD .len [plD ps] = some (.fz (.int (n : Nat))) := by
      unfold plD
      rw [q_len2, List.length_map, len]
    simp only [e_ev_var, e_ev_cI, e_ev_cS, e_ev_cN, e_ev_cB, e_ev_neg, e_ev_tup, e_ev_lst, e_ev_bin, e_ev_cmp, e_ev_chn, e_ev_and, e_ev_or, e_ev_not, e_ev_ite, e_ev_sub, e_ev_slc, e_ev_rev, e_ev_call, e_ev_bi, e_ev_isi, e_ev_index, e_ev_pop, e_ev_popAt, e_evs_nil, e_evs_cons, e_evAnd_one, e_evAnd_more, e_evOr_one, e_evOr_more, e_evO_no, e_evO_yes, e_evI_seq, e_evI_rng1, e_evI_rng2, e_evI_enm, e_evI_zp, e_xS_asg, e_xS_set, e_xS_par, e_xS_par3, e_xS_exp, e_xS_app, e_xS_ext, e_xS_setIx, e_xS_ret, e_xS_ife, e_xS_pas, e_xS_brk, e_xS_cnt, e_xS_nev, e_xsl_nil, e_xsl_cons, q_bind, q_toS, q_seq1, q_seq2, q_seq3, q_seq4, q_end1, q_end2, q_tst, q_pick, q_ret1, q_ret2, q_ret3, q_dv1, q_dv2, q_es1, q_es2, q_ea0, q_ea1, q_ea2, q_ea3, q_ec1, line0, line1, line2, line3, line4, line5, line6, line7, line8, q_sk1, q_sk2, q_sk3, q_noX, q_hold1, q_hold2, q_frz1, id, q_goS, q_sv1, q_sv2, q_sv3, q_ub1, q_ub2, q_pv, parS, parS3, Nat.reduceLT, Nat.reduceLeDiff, q_andK, q_orK, q_chnK, q_ite1, q_ite2, q_ite3, q_ite4, q_ite5, decide_eq_true_eq, Bool.not_eq_true', decide_eq_false_iff_not, q_add, q_sub, q_lt, q_le, q_gt, q_ge, q_eqI, q_neI, q_len1, q_len2, q_int1, q_int2, q_min, q_max, q_tup1, q_tup2, q_lst1, q_lst2, q_subL, q_subT, q_slL, q_slT, argE, List.getElem?_cons_zero, List.getElem?_cons_succ, List.getElem?_nil, List.map_cons, List.map_nil, List.replicate, List.nil_append, List.cons_append, List.append_nil, Option.map_some, Option.map_none, if_true, if_false, reduceIte, List.length_cons, List.length_nil, Nat.reduceAdd, Nat.reduceSub, List.mapM_cons, List.mapM_nil, Option.bind_eq_bind, Option.bind_some, Option.pure_def, atI_lit, List.set_cons_zero, List.set_cons_succ, q_as1, q_as2, q_as3, q_as4, q_as5, q_wp0, q_wp1, q_kp0, q_kp1, q_ed0, q_ed1, Bool.false_eq_true, Bool.not_true, Bool.not_false, hi, hl, web0, not_true_eq_false]
  have ha : argE 8 [.fz (webD n ts), .fz (plD ps)] = [some (.fz (webD n ts)), some (.fz (plD ps)), none, none, none, none, none, none] := rfl
  rw [ha, b__law_fault, xsl_nx H0, xsl_nx H1]
  have fin : ∀ (x3 x4 x5 : Option EV) (e : PyData), fn 13 [.fz (webD n ts), .fz (plD ps)] w = .ok (.lst (meetL ps ts)) w → (e = match (generalizing := false) meetL ps ts with | .tuple l :: _ => .tuple (.str "cross" :: l) | _ => .none) → 
      endS (xsl fn (.cons (.set 6 (.call 13 (.cons (.var 0) (.cons (.var 1) .nil)))) (.cons (.ret (.ite (.cmp .ne (.var 6) (.lst .nil)) (.bin .add (.tup (.cons (.cS "cross") .nil)) (.sub (.var 6) (.cI 0))) .cN)) .nil)) [some (.fz (webD n ts)), some (.fz (plD ps)), x2, x3, x4, x5, none, none] w) = .ok (.fz e) w := by
    intro x3 x4 x5 e h he
    cases hm : meetL ps ts with
    | nil =>
      rw [hm] at h hne he
      have hd : dval [some (.fz (webD n ts)), some (.fz (plD ps)), x2, x3, x4, x5, some (.lst []), none] (.bor 6) = some (.list []) := rfl
      simp only [e_ev_var, e_ev_cI, e_ev_cS, e_ev_cN, e_ev_cB, e_ev_neg, e_ev_tup, e_ev_lst, e_ev_bin, e_ev_cmp, e_ev_chn, e_ev_and, e_ev_or, e_ev_not, e_ev_ite, e_ev_sub, e_ev_slc, e_ev_rev, e_ev_call, e_ev_bi, e_ev_isi, e_ev_index, e_ev_pop, e_ev_popAt, e_evs_nil, e_evs_cons, e_evAnd_one, e_evAnd_more, e_evOr_one, e_evOr_more, e_evO_no, e_evO_yes, e_evI_seq, e_evI_rng1, e_evI_rng2, e_evI_enm, e_evI_zp, e_xS_asg, e_xS_set, e_xS_par, e_xS_par3, e_xS_exp, e_xS_app, e_xS_ext, e_xS_setIx, e_xS_ret, e_xS_ife, e_xS_pas, e_xS_brk, e_xS_cnt, e_xS_nev, e_xsl_nil, e_xsl_cons, q_bind, q_toS, q_seq1, q_seq2, q_seq3, q_seq4, q_end1, q_end2, q_tst, q_pick, q_ret1, q_ret2, q_ret3, q_dv1, q_dv2, q_es1, q_es2, q_ea0, q_ea1, q_ea2, q_ea3, q_ec1, line0, line1, line2, line3, line4, line5, line6, line7, line8, q_sk1, q_sk2, q_sk3, q_noX, q_hold1, q_hold2, q_frz1, id, q_goS, q_sv1, q_sv2, q_sv3, q_ub1, q_ub2, q_pv, parS, parS3, Nat.reduceLT, Nat.reduceLeDiff, q_andK, q_orK, q_chnK, q_ite1, q_ite2, q_ite3, q_ite4, q_ite5, decide_eq_true_eq, Bool.not_eq_true', decide_eq_false_iff_not, q_add, q_sub, q_lt, q_le, q_gt, q_ge, q_eqI, q_neI, q_len1, q_len2, q_int1, q_int2, q_min, q_max, q_tup1, q_tup2, q_lst1, q_lst2, q_subL, q_subT, q_slL, q_slT, argE, List.getElem?_cons_zero, List.getElem?_cons_succ, List.getElem?_nil, List.map_cons, List.map_nil, List.replicate, List.nil_append, List.cons_append, List.append_nil, Option.map_some, Option.map_none, if_true, if_false, reduceIte, List.length_cons, List.length_nil, Nat.reduceAdd, Nat.reduceSub, List.mapM_cons, List.mapM_nil, Option.bind_eq_bind, Option.bind_some, Option.pure_def, atI_lit, List.set_cons_zero, List.set_cons_succ, q_as1, q_as2, q_as3, q_as4, q_as5, q_wp0, q_wp1, q_kp0, q_kp1, q_ed0, q_ed1, Bool.false_eq_true, Bool.not_true, Bool.not_false, h, hne, he, hd, ne_eq, not_true_eq_false, decide_false]
    | cons m r =>
      obtain ⟨s, t, hs, ht, _, rfl⟩ := meetL_mem o (show m ∈ meetL ps ts by rw [hm]; simp)
      rw [hm] at h hne he
      have hd : dval [some (.fz (webD n ts)), some (.fz (plD ps)), x2, x3, x4, x5, some (.lst (pairD s t :: r)), none] (.bor 6) = some (.list (pairD s t :: r)) := rfl
      have hc : ∀ s t : Tie, binD .add (.tuple [.str "cross"]) (pairD s t) = some (.fz (crossD s t)) := fun s t => q_catT (ds := [.str "cross"]) (es := [tieD s, tieD t]) (line_ge (by show 3 ≤ _; decide))
      simp only [pairD] at h hne hd hc he
      simp only [e_ev_var, e_ev_cI, e_ev_cS, e_ev_cN, e_ev_cB, e_ev_neg, e_ev_tup, e_ev_lst, e_ev_bin, e_ev_cmp, e_ev_chn, e_ev_and, e_ev_or, e_ev_not, e_ev_ite, e_ev_sub, e_ev_slc, e_ev_rev, e_ev_call, e_ev_bi, e_ev_isi, e_ev_index, e_ev_pop, e_ev_popAt, e_evs_nil, e_evs_cons, e_evAnd_one, e_evAnd_more, e_evOr_one, e_evOr_more, e_evO_no, e_evO_yes, e_evI_seq, e_evI_rng1, e_evI_rng2, e_evI_enm, e_evI_zp, e_xS_asg, e_xS_set, e_xS_par, e_xS_par3, e_xS_exp, e_xS_app, e_xS_ext, e_xS_setIx, e_xS_ret, e_xS_ife, e_xS_pas, e_xS_brk, e_xS_cnt, e_xS_nev, e_xsl_nil, e_xsl_cons, q_bind, q_toS, q_seq1, q_seq2, q_seq3, q_seq4, q_end1, q_end2, q_tst, q_pick, q_ret1, q_ret2, q_ret3, q_dv1, q_dv2, q_es1, q_es2, q_ea0, q_ea1, q_ea2, q_ea3, q_ec1, line0, line1, line2, line3, line4, line5, line6, line7, line8, q_sk1, q_sk2, q_sk3, q_noX, q_hold1, q_hold2, q_frz1, id, q_goS, q_sv1, q_sv2, q_sv3, q_ub1, q_ub2, q_pv, parS, parS3, Nat.reduceLT, Nat.reduceLeDiff, q_andK, q_orK, q_chnK, q_ite1, q_ite2, q_ite3, q_ite4, q_ite5, decide_eq_true_eq, Bool.not_eq_true', decide_eq_false_iff_not, q_add, q_sub, q_lt, q_le, q_gt, q_ge, q_eqI, q_neI, q_len1, q_len2, q_int1, q_int2, q_min, q_max, q_tup1, q_tup2, q_lst1, q_lst2, q_subL, q_subT, q_slL, q_slT, argE, List.getElem?_cons_zero, List.getElem?_cons_succ, List.getElem?_nil, List.map_cons, List.map_nil, List.replicate, List.nil_append, List.cons_append, List.append_nil, Option.map_some, Option.map_none, if_true, if_false, reduceIte, List.length_cons, List.length_nil, Nat.reduceAdd, Nat.reduceSub, List.mapM_cons, List.mapM_nil, Option.bind_eq_bind, Option.bind_some, Option.pure_def, atI_lit, List.set_cons_zero, List.set_cons_succ, q_as1, q_as2, q_as3, q_as4, q_as5, q_wp0, q_wp1, q_kp0, q_kp1, q_ed0, q_ed1, Bool.false_eq_true, Bool.not_true, Bool.not_false, h, hne, he, hd, hc, ne_eq, reduceCtorEq, not_false_eq_true, decide_true, crossD]
  cases f with
  | same ha hb' h =>
    rw [h] at H2
    rw [xsl_rt H2, q_end1]
  | on ha ht h h' =>
    rw [h] at H2
    obtain ⟨e2, H2, x3, x4, rfl⟩ := H2
    have H3 := lf3 hB o x2 x3 x4
    rw [h'] at H3
    rw [xsl_nx H2, xsl_rt H3, q_end1]
  | cross hs ht h h' h'' =>
    rw [h] at H2
    obtain ⟨e2, H2, x3, x4, rfl⟩ := H2
    have H3 := lf3 hB o x2 x3 x4
    rw [h'] at H3
    obtain ⟨e2, H3, y3, y4, y5, rfl⟩ := H3
    rw [xsl_nx H2, xsl_nx H3]
    exact fin y3 y4 y5 _ h13 (by rw [h'']; rfl)
  | clear h h' h'' =>
    rw [h] at H2
    obtain ⟨e2, H2, x3, x4, rfl⟩ := H2
    have H3 := lf3 hB o x2 x3 x4
    rw [h'] at H3
    obtain ⟨e2, H3, y3, y4, y5, rfl⟩ := H3
    rw [xsl_nx H2, xsl_nx H3]
    exact fin y3 y4 y5 _ h13 (by rw [h''])
end K37

set_option Elab.async false
set_option linter.all false
set_option maxRecDepth 100000
set_option maxHeartbeats 8000000
set_option exponentiation.threshold 1000
set_option autoImplicit false
namespace K37
open PySem PySem.Spec L2 DL
/-! ### draws -/
/-- the pick of a level -/
def Picks (fn : Fns) : Prop := ∀ (m : Nat) (s : Src), 1 ≤ m → m ≤ 1000000000 → ∃ (j : Nat) (s' : Src), j < m ∧ fn 8 [.src, .fz (.int (m : Nat))] (some s) = .ok (.fz (.int (j : Nat))) (some s')
theorem m_pick (k : Nat) : Picks (fnAt tab (k + 1)) := by
  intro m s h1 h2
  obtain ⟨j, hj, e⟩ := pick_nat m h1 s
  refine ⟨j, (pickB (m : Nat) s).2, hj, ?_⟩
  rw [fnAt_nat t__law_pick k (by omega) _ _ rfl, pickN_go (by omega), e]
theorem any_loop {fn : Fns} (hp : Picks fn) (x1 : Option EV) : ∀ (items cur acc : List PyData) (s : Src), cur.length = items.length → acc.length + items.length ≤ 1000000 →
    ∃ out s', lcGo (.nm 3) [3] none (evT fn .nil) (ev fn (.popAt 2 (.call 8 (.cons (.var 0) (.cons (.bi .len (.cons (.var 2) .nil)) .nil))))) items acc [some .src, x1, some (.lst cur), none] (some s) = .ok (acc ++ out) [some .src, x1, some (.lst []), none] (some s') ∧ out.Perm cur
  | [], cur, acc, s, hl, _ => by
    have : cur = [] := by simpa using hl
    subst this
    exact ⟨[], s, by rw [List.append_nil]; simp only [lcGo]; rw [if_pos q_heldN], .nil⟩
  | d :: items, cur, acc, s, hl, ha => by
    rw [List.length_cons] at hl ha
    obtain ⟨j, s', hj, hc⟩ := hp cur.length s (by omega) (by omega)
    have hd : cur[j]? = some (cur[j]) := List.getElem?_eq_getElem hj
    generalize cur[j] = x at hd
    have hpop := q_pop (i := 2) (env := [some .src, x1, some (.lst cur), some (.fz d)]) (w := some s') (ds := cur) (j := j) (d := x) rfl hj (by omega) hd
    have hv : ev fn (.popAt 2 (.call 8 (.cons (.var 0) (.cons (.bi .len (.cons (.var 2) .nil)) .nil)))) [some .src, x1, some (.lst cur), some (.fz d)] (some s) = .ok (.fz x) [some .src, x1, some (.lst (cur.eraseIdx j)), some (.fz d)] (some s') := by
      have hdv : dval [some .src, x1, some (.lst cur), some (.fz d)] (.bor 2) = some (.list cur) := rfl
      simp only [e_ev_var, e_ev_cI, e_ev_cS, e_ev_cN, e_ev_cB, e_ev_neg, e_ev_tup, e_ev_lst, e_ev_bin, e_ev_cmp, e_ev_chn, e_ev_and, e_ev_or, e_ev_not, e_ev_ite, e_ev_sub, e_ev_slc, e_ev_rev, e_ev_call, e_ev_bi, e_ev_isi, e_ev_index, e_ev_pop, e_ev_popAt, e_evs_nil, e_evs_cons, e_evAnd_one, e_evAnd_more, e_evOr_one, e_evOr_more, e_evO_no, e_evO_yes, e_evI_seq, e_evI_rng1, e_evI_rng2, e_evI_enm, e_evI_zp, e_xS_asg, e_xS_set, e_xS_par, e_xS_par3, e_xS_exp, e_xS_app, e_xS_ext, e_xS_setIx, e_xS_ret, e_xS_ife, e_xS_pas, e_xS_brk, e_xS_cnt, e_xS_nev, e_xsl_nil, e_xsl_cons, q_bind, q_toS, q_seq1, q_seq2, q_seq3, q_seq4, q_end1, q_end2, q_tst, q_pick, q_ret1, q_ret2, q_ret3, q_dv1, q_dv2, q_es1, q_es2, q_ea0, q_ea1, q_ea2, q_ea3, q_ec1, line0, line1, line2, line3, line4, line5, line6, line7, line8, q_sk1, q_sk2, q_sk3, q_noX, q_hold1, q_hold2, q_frz1, id, q_goS, q_sv1, q_sv2, q_sv3, q_ub1, q_ub2, q_pv, parS, parS3, Nat.reduceLT, Nat.reduceLeDiff, q_andK, q_orK, q_chnK, q_ite1, q_ite2, q_ite3, q_ite4, q_ite5, decide_eq_true_eq, Bool.not_eq_true', decide_eq_false_iff_not, q_add, q_sub, q_lt, q_le, q_gt, q_ge, q_eqI, q_neI, q_len1, q_len2, q_int1, q_int2, q_min, q_max, q_tup1, q_tup2, q_lst1, q_lst2, q_subL, q_subT, q_slL, q_slT, argE, List.getElem?_cons_zero, List.getElem?_cons_succ, List.getElem?_nil, List.map_cons, List.map_nil, List.replicate, List.nil_append, List.cons_append, List.append_nil, Option.map_some, Option.map_none, if_true, if_false, reduceIte, List.length_cons, List.length_nil, Nat.reduceAdd, Nat.reduceSub, List.mapM_cons, List.mapM_nil, Option.bind_eq_bind, Option.bind_some, Option.pure_def, atI_lit, List.set_cons_zero, List.set_cons_succ, q_as1, q_as2, q_as3, q_as4, q_as5, q_wp0, q_wp1, q_kp0, q_kp1, q_ed0, q_ed1, Bool.false_eq_true, Bool.not_true, Bool.not_false, hdv, hc, hpop]
    have hlen : (cur.eraseIdx j).length = items.length := by
      rw [List.length_eraseIdx_of_lt hj]; omega
    obtain ⟨out, s'', h1, h2⟩ := any_loop hp x1 items (cur.eraseIdx j) (acc ++ [x]) s' hlen (by simp; omega)
    refine ⟨x :: out, s'', ?_, (h2.cons x).trans (perm_erase hd)⟩
    simp only [lcGo]
    rw [if_pos q_heldN]
    have hT : asgT [some .src, x1, some (.lst cur), none] (.nm 3) d = some [some .src, x1, some (.lst cur), some (.fz d)] := rfl
    have hE : evT fn .nil [some .src, x1, some (.lst cur), some (.fz d)] (some s) = .ok true [some .src, x1, some (.lst cur), some (.fz d)] (some s) := rfl
    simp only [hT, hE, q_bind, if_true, hv, q_es1]
    rw [if_pos (Nat.lt_of_lt_of_le (show acc.length < 1000001 by omega) (by decide))]
    have hw : wipeE [some .src, x1, some (.lst (cur.eraseIdx j)), some (.fz d)] [3] = [some .src, x1, some (.lst (cur.eraseIdx j)), none] := rfl
    rw [hw, h1, List.append_assoc]
    rfl
theorem m_any_order (k : Nat) (s : Src) (ds : List PyData) (hl : ds.length ≤ 1000000) :
    ∃ out s', fnAt tab (k + 2) 9 [.src, .fz (.list ds)] (some s) = .ok (.lst out) (some s') ∧ out.Perm ds := by
  rw [fnAt_txt t__law_any_order (by decide) (k + 1) _ _ rfl]
  have hp := m_pick k
  generalize fnAt tab (k + 1) = fn at *
  obtain ⟨out, s', h1, h2⟩ := any_loop hp (some (.fz (.list ds))) (rngL 0 ds.length) ds [] s (rngL_len 0 ds.length).symm (by rw [rngL_len]; simpa using hl)
  refine ⟨out, s', ?_, h2⟩
  have hdv : dval [some .src, some (.fz (.list ds)), some (.lst ds), none] (.bor 2) = some (.list ds) := rfl
  have hI : evI fn (.rng1 (.bi .len (.cons (.var 2) .nil))) [some .src, some (.fz (.list ds)), some (.lst ds), none] (some s) = _ := evI_rng1N (n := ds.length) (e1 := [some .src, some (.fz (.list ds)), some (.lst ds), none]) (w1 := some s) (by simp only [e_ev_var, e_ev_cI, e_ev_cS, e_ev_cN, e_ev_cB, e_ev_neg, e_ev_tup, e_ev_lst, e_ev_bin, e_ev_cmp, e_ev_chn, e_ev_and, e_ev_or, e_ev_not, e_ev_ite, e_ev_sub, e_ev_slc, e_ev_rev, e_ev_call, e_ev_bi, e_ev_isi, e_ev_index, e_ev_pop, e_ev_popAt, e_evs_nil, e_evs_cons, e_evAnd_one, e_evAnd_more, e_evOr_one, e_evOr_more, e_evO_no, e_evO_yes, e_evI_seq, e_evI_rng1, e_evI_rng2, e_evI_enm, e_evI_zp, e_xS_asg, e_xS_set, e_xS_par, e_xS_par3, e_xS_exp, e_xS_app, e_xS_ext, e_xS_setIx, e_xS_ret, e_xS_ife, e_xS_pas, e_xS_brk, e_xS_cnt, e_xS_nev, e_xsl_nil, e_xsl_cons, q_bind, q_toS, q_seq1, q_seq2, q_seq3, q_seq4, q_end1, q_end2, q_tst, q_pick, q_ret1, q_ret2, q_ret3, q_dv1, q_dv2, q_es1, q_es2, q_ea0, q_ea1, q_ea2, q_ea3, q_ec1, line0, line1, line2, line3, line4, line5, line6, line7, line8, q_sk1, q_sk2, q_sk3, q_noX, q_hold1, q_hold2, q_frz1, id, q_goS, q_sv1, q_sv2, q_sv3, q_ub1, q_ub2, q_pv, parS, parS3, Nat.reduceLT, Nat.reduceLeDiff, q_andK, q_orK, q_chnK, q_ite1, q_ite2, q_ite3, q_ite4, q_ite5, decide_eq_true_eq, Bool.not_eq_true', decide_eq_false_iff_not, q_add, q_sub, q_lt, q_le, q_gt, q_ge, q_eqI, q_neI, q_len1, q_len2, q_int1, q_int2, q_min, q_max, q_tup1, q_tup2, q_lst1, q_lst2, q_subL, q_subT, q_slL, q_slT, argE, List.getElem?_cons_zero, List.getElem?_cons_succ, List.getElem?_nil, List.map_cons, List.map_nil, List.replicate, List.nil_append, List.cons_append, List.append_nil, Option.map_some, Option.map_none, if_true, if_false, reduceIte, List.length_cons, List.length_nil, Nat.reduceAdd, Nat.reduceSub, List.mapM_cons, List.mapM_nil, Option.bind_eq_bind, Option.bind_some, Option.pure_def, atI_lit, List.set_cons_zero, List.set_cons_succ, q_as1, q_as2, q_as3, q_as4, q_as5, q_wp0, q_wp1, q_kp0, q_kp1, q_ed0, q_ed1, Bool.false_eq_true, Bool.not_true, Bool.not_false, hdv]) (by omega)
  have hL : ev fn (.lc [("lap", 3)] (.nm 3) (.rng1 (.bi .len (.cons (.var 2) .nil))) .nil (.popAt 2 (.call 8 (.cons (.var 0) (.cons (.bi .len (.cons (.var 2) .nil)) .nil))))) [some .src, some (.fz (.list ds)), some (.lst ds), none] (some s) = .ok (.lst out) [some .src, some (.fz (.list ds)), some (.lst []), none] (some s') := ev_lc_go (own := [("lap", 3)]) hI h1
  simp only [b__law_any_order, e_ev_var, e_ev_cI, e_ev_cS, e_ev_cN, e_ev_cB, e_ev_neg, e_ev_tup, e_ev_lst, e_ev_bin, e_ev_cmp, e_ev_chn, e_ev_and, e_ev_or, e_ev_not, e_ev_ite, e_ev_sub, e_ev_slc, e_ev_rev, e_ev_call, e_ev_bi, e_ev_isi, e_ev_index, e_ev_pop, e_ev_popAt, e_evs_nil, e_evs_cons, e_evAnd_one, e_evAnd_more, e_evOr_one, e_evOr_more, e_evO_no, e_evO_yes, e_evI_seq, e_evI_rng1, e_evI_rng2, e_evI_enm, e_evI_zp, e_xS_asg, e_xS_set, e_xS_par, e_xS_par3, e_xS_exp, e_xS_app, e_xS_ext, e_xS_setIx, e_xS_ret, e_xS_ife, e_xS_pas, e_xS_brk, e_xS_cnt, e_xS_nev, e_xsl_nil, e_xsl_cons, q_bind, q_toS, q_seq1, q_seq2, q_seq3, q_seq4, q_end1, q_end2, q_tst, q_pick, q_ret1, q_ret2, q_ret3, q_dv1, q_dv2, q_es1, q_es2, q_ea0, q_ea1, q_ea2, q_ea3, q_ec1, line0, line1, line2, line3, line4, line5, line6, line7, line8, q_sk1, q_sk2, q_sk3, q_noX, q_hold1, q_hold2, q_frz1, id, q_goS, q_sv1, q_sv2, q_sv3, q_ub1, q_ub2, q_pv, parS, parS3, Nat.reduceLT, Nat.reduceLeDiff, q_andK, q_orK, q_chnK, q_ite1, q_ite2, q_ite3, q_ite4, q_ite5, decide_eq_true_eq, Bool.not_eq_true', decide_eq_false_iff_not, q_add, q_sub, q_lt, q_le, q_gt, q_ge, q_eqI, q_neI, q_len1, q_len2, q_int1, q_int2, q_min, q_max, q_tup1, q_tup2, q_lst1, q_lst2, q_subL, q_subT, q_slL, q_slT, argE, List.getElem?_cons_zero, List.getElem?_cons_succ, List.getElem?_nil, List.map_cons, List.map_nil, List.replicate, List.nil_append, List.cons_append, List.append_nil, Option.map_some, Option.map_none, if_true, if_false, reduceIte, List.length_cons, List.length_nil, Nat.reduceAdd, Nat.reduceSub, List.mapM_cons, List.mapM_nil, Option.bind_eq_bind, Option.bind_some, Option.pure_def, atI_lit, List.set_cons_zero, List.set_cons_succ, q_as1, q_as2, q_as3, q_as4, q_as5, q_wp0, q_wp1, q_kp0, q_kp1, q_ed0, q_ed1, Bool.false_eq_true, Bool.not_true, Bool.not_false, hL]
end K37

set_option Elab.async false
set_option linter.all false
set_option maxRecDepth 100000
set_option maxHeartbeats 8000000
set_option exponentiation.threshold 1000
set_option autoImplicit false
namespace K37
open PySem PySem.Spec L2 DL
/-! ### the drawn places -/
theorem eqv_pt (p q : Pt) : PyData.eqv (pt p) (pt q) = decide (p = q) := by
  have h := eq_pt p q
  rw [q_eq (okEq_pt p q)] at h
  exact Option.some.inj h
theorem tm_pts {ps : List Pt} (h : ∀ p, p ∈ ps → SmP p) : ∀ d, d ∈ ps.map pt → Tm 1 100 d := by
  intro d hd
  rw [List.mem_map] at hd
  obtain ⟨p, hp, rfl⟩ := hd
  exact tm_pt (h p hp)
theorem any_pts (p : Pt) : ∀ ps : List Pt, ((ps.map pt).any fun z => PyData.eqv z (pt p)) = decide (p ∈ ps)
  | [] => rfl
  | q :: ps => by
    rw [List.map_cons, List.any_cons, any_pts p ps, eqv_pt]
    by_cases h : q = p
    · subst h; simp
    · have h' : ¬ p = q := fun e => h e.symm
      simp [h, h']
theorem notin_pts {p : Pt} {ps : List Pt} (hp : SmP p) (h : ∀ p, p ∈ ps → SmP p) : cmpD .notin (pt p) (.list (ps.map pt)) = some (!decide (p ∈ ps)) := by
  rw [q_ninL (okEq_tm (tm_pt hp) (Tm.list (tm_pts h)) (by decide) (by decide)), any_pts]
theorem rep1 (d : PyData) : binD .mul (.list [d]) (.int 1) = some (.lst [d]) := q_repL (ds := [d]) (j := 1) ⟨by decide, by decide, by show 1 ≤ _; decide⟩
theorem rep0 (d : PyData) : binD .mul (.list [d]) (.int 0) = some (.lst []) := q_repL (ds := [d]) (j := 0) ⟨by decide, by decide, by show 0 ≤ _; decide⟩
structure Drawn (n : Nat) (ps : List Pt) : Prop where
  few : ps.length ≤ n
  sm : ∀ p, p ∈ ps → SmP p
  nod : ps.Nodup
theorem draw_loop1 {fn : Fns} (hp : Picks fn) {n most : Nat} (hn : 1 ≤ n ∧ n ≤ 8) (hm : 1 ≤ most ∧ most ≤ 1000) (s : Src) :
    ∃ (ps : List Pt) (s' : Src) (x4 x5 : Option EV), xS fn (.for_ (.nm 4) (.rng1 (.cI 60)) (.cons (.set 5 (.tup (.cons (.call 8 (.cons (.var 0) (.cons (.var 2) .nil))) (.cons (.call 8 (.cons (.var 0) (.cons (.var 2) .nil))) .nil)))) (.cons (.set 3 (.bin .add (.var 3) (.bin .mul (.lst (.cons (.var 5) .nil)) (.bi .int (.cons (.and (.cons (.cmp .notin (.var 5) (.var 3)) (.cons (.cmp .lt (.bi .len (.cons (.var 3) .nil)) (.var 1)) .nil))) .nil))))) .nil))) [some .src, some (.fz (.int (n : Nat))), some (.fz (.int (most : Nat))), some (.lst []), none, none, none, none, none, none, none, none, none] (some s)
      = .nx [some .src, some (.fz (.int (n : Nat))), some (.fz (.int (most : Nat))), some (.lst (ps.map pt)), x4, x5, none, none, none, none, none, none, none] (some s') ∧ Drawn n ps ∧ 1 ≤ ps.length := by
  have L := for_ix (tg := .nm 4) (b := xsl fn (.cons (.set 5 (.tup (.cons (.call 8 (.cons (.var 0) (.cons (.var 2) .nil))) (.cons (.call 8 (.cons (.var 0) (.cons (.var 2) .nil))) .nil)))) (.cons (.set 3 (.bin .add (.var 3) (.bin .mul (.lst (.cons (.var 5) .nil)) (.bi .int (.cons (.and (.cons (.cmp .notin (.var 5) (.var 3)) (.cons (.cmp .lt (.bi .len (.cons (.var 3) .nil)) (.var 1)) .nil))) .nil))))) .nil))) (ds := rngL 0 60) (env := [some .src, some (.fz (.int (n : Nat))), some (.fz (.int (most : Nat))), some (.lst []), none, none, none, none, none, none, none, none, none]) (w := some s)
    (J := fun i env w => ∃ (ps : List Pt) (s' : Src) (x4 x5 : Option EV), w = some s' ∧ env = [some .src, some (.fz (.int (n : Nat))), some (.fz (.int (most : Nat))), some (.lst (ps.map pt)), x4, x5, none, none, none, none, none, none, none] ∧ Drawn n ps ∧ (0 < i → 1 ≤ ps.length)) ?_ ?_
  · obtain ⟨e2, w2, h1, ps, s', x4, x5, rfl, rfl, h2, h3⟩ := L
    refine ⟨ps, s', x4, x5, ?_, h2, h3 (by rw [rngL_len]; decide)⟩
    exact xS_forN (evI_rng1N (n := 60) (e1 := [some .src, some (.fz (.int (n : Nat))), some (.fz (.int (most : Nat))), some (.lst []), none, none, none, none, none, none, none, none, none]) (w1 := some s) (by simp only [e_ev_var, e_ev_cI, e_ev_cS, e_ev_cN, e_ev_cB, e_ev_neg, e_ev_tup, e_ev_lst, e_ev_bin, e_ev_cmp, e_ev_chn, e_ev_and, e_ev_or, e_ev_not, e_ev_ite, e_ev_sub, e_ev_slc, e_ev_rev, e_ev_call, e_ev_bi, e_ev_isi, e_ev_index, e_ev_pop, e_ev_popAt, e_evs_nil, e_evs_cons, e_evAnd_one, e_evAnd_more, e_evOr_one, e_evOr_more, e_evO_no, e_evO_yes, e_evI_seq, e_evI_rng1, e_evI_rng2, e_evI_enm, e_evI_zp, e_xS_asg, e_xS_set, e_xS_par, e_xS_par3, e_xS_exp, e_xS_app, e_xS_ext, e_xS_setIx, e_xS_ret, e_xS_ife, e_xS_pas, e_xS_brk, e_xS_cnt, e_xS_nev, e_xsl_nil, e_xsl_cons, q_bind, q_toS, q_seq1, q_seq2, q_seq3, q_seq4, q_end1, q_end2, q_tst, q_pick, q_ret1, q_ret2, q_ret3, q_dv1, q_dv2, q_es1, q_es2, q_ea0, q_ea1, q_ea2, q_ea3, q_ec1, line0, line1, line2, line3, line4, line5, line6, line7, line8, q_sk1, q_sk2, q_sk3, q_noX, q_hold1, q_hold2, q_frz1, id, q_goS, q_sv1, q_sv2, q_sv3, q_ub1, q_ub2, q_pv, parS, parS3, Nat.reduceLT, Nat.reduceLeDiff, q_andK, q_orK, q_chnK, q_ite1, q_ite2, q_ite3, q_ite4, q_ite5, decide_eq_true_eq, Bool.not_eq_true', decide_eq_false_iff_not, q_add, q_sub, q_lt, q_le, q_gt, q_ge, q_eqI, q_neI, q_len1, q_len2, q_int1, q_int2, q_min, q_max, q_tup1, q_tup2, q_lst1, q_lst2, q_subL, q_subT, q_slL, q_slT, argE, List.getElem?_cons_zero, List.getElem?_cons_succ, List.getElem?_nil, List.map_cons, List.map_nil, List.replicate, List.nil_append, List.cons_append, List.append_nil, Option.map_some, Option.map_none, if_true, if_false, reduceIte, List.length_cons, List.length_nil, Nat.reduceAdd, Nat.reduceSub, List.mapM_cons, List.mapM_nil, Option.bind_eq_bind, Option.bind_some, Option.pure_def, atI_lit, List.set_cons_zero, List.set_cons_succ, q_as1, q_as2, q_as3, q_as4, q_as5, q_wp0, q_wp1, q_kp0, q_kp1, q_ed0, q_ed1, Bool.false_eq_true, Bool.not_true, Bool.not_false]; rfl) (by decide)) h1
  · exact ⟨[], s, none, none, rfl, rfl, ⟨by simp, by simp, by simp⟩, by simp⟩
  · rintro i d hd env w ⟨ps, s', x4, x5, rfl, rfl, dr, h1⟩
    refine ⟨[some .src, some (.fz (.int (n : Nat))), some (.fz (.int (most : Nat))), some (.lst (ps.map pt)), some (.fz d), x5, none, none, none, none, none, none, none], by simp only [e_ev_var, e_ev_cI, e_ev_cS, e_ev_cN, e_ev_cB, e_ev_neg, e_ev_tup, e_ev_lst, e_ev_bin, e_ev_cmp, e_ev_chn, e_ev_and, e_ev_or, e_ev_not, e_ev_ite, e_ev_sub, e_ev_slc, e_ev_rev, e_ev_call, e_ev_bi, e_ev_isi, e_ev_index, e_ev_pop, e_ev_popAt, e_evs_nil, e_evs_cons, e_evAnd_one, e_evAnd_more, e_evOr_one, e_evOr_more, e_evO_no, e_evO_yes, e_evI_seq, e_evI_rng1, e_evI_rng2, e_evI_enm, e_evI_zp, e_xS_asg, e_xS_set, e_xS_par, e_xS_par3, e_xS_exp, e_xS_app, e_xS_ext, e_xS_setIx, e_xS_ret, e_xS_ife, e_xS_pas, e_xS_brk, e_xS_cnt, e_xS_nev, e_xsl_nil, e_xsl_cons, q_bind, q_toS, q_seq1, q_seq2, q_seq3, q_seq4, q_end1, q_end2, q_tst, q_pick, q_ret1, q_ret2, q_ret3, q_dv1, q_dv2, q_es1, q_es2, q_ea0, q_ea1, q_ea2, q_ea3, q_ec1, line0, line1, line2, line3, line4, line5, line6, line7, line8, q_sk1, q_sk2, q_sk3, q_noX, q_hold1, q_hold2, q_frz1, id, q_goS, q_sv1, q_sv2, q_sv3, q_ub1, q_ub2, q_pv, parS, parS3, Nat.reduceLT, Nat.reduceLeDiff, q_andK, q_orK, q_chnK, q_ite1, q_ite2, q_ite3, q_ite4, q_ite5, decide_eq_true_eq, Bool.not_eq_true', decide_eq_false_iff_not, q_add, q_sub, q_lt, q_le, q_gt, q_ge, q_eqI, q_neI, q_len1, q_len2, q_int1, q_int2, q_min, q_max, q_tup1, q_tup2, q_lst1, q_lst2, q_subL, q_subT, q_slL, q_slT, argE, List.getElem?_cons_zero, List.getElem?_cons_succ, List.getElem?_nil, List.map_cons, List.map_nil, List.replicate, List.nil_append, List.cons_append, List.append_nil, Option.map_some, Option.map_none, if_true, if_false, reduceIte, List.length_cons, List.length_nil, Nat.reduceAdd, Nat.reduceSub, List.mapM_cons, List.mapM_nil, Option.bind_eq_bind, Option.bind_some, Option.pure_def, atI_lit, List.set_cons_zero, List.set_cons_succ, q_as1, q_as2, q_as3, q_as4, q_as5, q_wp0, q_wp1, q_kp0, q_kp1, q_ed0, q_ed1, Bool.false_eq_true, Bool.not_true, Bool.not_false], ?_⟩
    obtain ⟨j1, s1, hj1, c1⟩ := hp most s' hm.1 (by omega)
    obtain ⟨j2, s2, hj2, c2⟩ := hp most s1 hm.1 (by omega)
    have smp : SmP ((j1 : Int), (j2 : Int)) := ⟨sm_nat (by omega), sm_nat (by omega)⟩
    have hni := notin_pts smp dr.sm
    have few := dr.few
    have hdv : ∀ x5 : Option EV, dval [some .src, some (.fz (.int (n : Nat))), some (.fz (.int (most : Nat))), some (.lst (ps.map pt)), some (.fz d), x5, none, none, none, none, none, none, none] (.bor 3) = some (.list (ps.map pt)) := fun _ => rfl
    have hcat : ∀ ds, ds.length ≤ 1 → binD .add (.list (ps.map pt)) (.list ds) = some (.lst (ps.map pt ++ ds)) := fun ds h => q_catL (line_ge (by simp; omega))
    have r1 := rep1 (pt ((j1 : Int), (j2 : Int)))
    have r0 := rep0 (pt ((j1 : Int), (j2 : Int)))
    have k1 := hcat [pt ((j1 : Int), (j2 : Int))] (by simp)
    have k0 := hcat [] (by simp)
    have pte : pt ((j1 : Int), (j2 : Int)) = .tuple [.int (j1 : Nat), .int (j2 : Nat)] := rfl
    rw [pte] at hni r1 r0 k1
    by_cases c : ((j1 : Int), (j2 : Int)) ∈ ps
    · rw [decide_eq_true c] at hni
      refine ⟨[some .src, some (.fz (.int (n : Nat))), some (.fz (.int (most : Nat))), some (.lst (ps.map pt)), some (.fz d), some (.fz (pt ((j1 : Int), (j2 : Int)))), none, none, none, none, none, none, none], some s2, .inl ?_, ps, s2, _, _, rfl, rfl, dr, fun _ => List.length_pos_of_mem c⟩
      have fin : xsl fn (.cons (.set 5 (.tup (.cons (.call 8 (.cons (.var 0) (.cons (.var 2) .nil))) (.cons (.call 8 (.cons (.var 0) (.cons (.var 2) .nil))) .nil)))) (.cons (.set 3 (.bin .add (.var 3) (.bin .mul (.lst (.cons (.var 5) .nil)) (.bi .int (.cons (.and (.cons (.cmp .notin (.var 5) (.var 3)) (.cons (.cmp .lt (.bi .len (.cons (.var 3) .nil)) (.var 1)) .nil))) .nil))))) .nil)) [some .src, some (.fz (.int (n : Nat))), some (.fz (.int (most : Nat))), some (.lst (ps.map pt)), some (.fz d), x5, none, none, none, none, none, none, none] (some s') = .nx [some .src, some (.fz (.int (n : Nat))), some (.fz (.int (most : Nat))), some (.lst (ps.map pt)), some (.fz d), some (.fz (pt ((j1 : Int), (j2 : Int)))), none, none, none, none, none, none, none] (some s2) := by
        simp only [e_ev_var, e_ev_cI, e_ev_cS, e_ev_cN, e_ev_cB, e_ev_neg, e_ev_tup, e_ev_lst, e_ev_bin, e_ev_cmp, e_ev_chn, e_ev_and, e_ev_or, e_ev_not, e_ev_ite, e_ev_sub, e_ev_slc, e_ev_rev, e_ev_call, e_ev_bi, e_ev_isi, e_ev_index, e_ev_pop, e_ev_popAt, e_evs_nil, e_evs_cons, e_evAnd_one, e_evAnd_more, e_evOr_one, e_evOr_more, e_evO_no, e_evO_yes, e_evI_seq, e_evI_rng1, e_evI_rng2, e_evI_enm, e_evI_zp, e_xS_asg, e_xS_set, e_xS_par, e_xS_par3, e_xS_exp, e_xS_app, e_xS_ext, e_xS_setIx, e_xS_ret, e_xS_ife, e_xS_pas, e_xS_brk, e_xS_cnt, e_xS_nev, e_xsl_nil, e_xsl_cons, q_bind, q_toS, q_seq1, q_seq2, q_seq3, q_seq4, q_end1, q_end2, q_tst, q_pick, q_ret1, q_ret2, q_ret3, q_dv1, q_dv2, q_es1, q_es2, q_ea0, q_ea1, q_ea2, q_ea3, q_ec1, line0, line1, line2, line3, line4, line5, line6, line7, line8, q_sk1, q_sk2, q_sk3, q_noX, q_hold1, q_hold2, q_frz1, id, q_goS, q_sv1, q_sv2, q_sv3, q_ub1, q_ub2, q_pv, parS, parS3, Nat.reduceLT, Nat.reduceLeDiff, q_andK, q_orK, q_chnK, q_ite1, q_ite2, q_ite3, q_ite4, q_ite5, decide_eq_true_eq, Bool.not_eq_true', decide_eq_false_iff_not, q_add, q_sub, q_lt, q_le, q_gt, q_ge, q_eqI, q_neI, q_len1, q_len2, q_int1, q_int2, q_min, q_max, q_tup1, q_tup2, q_lst1, q_lst2, q_subL, q_subT, q_slL, q_slT, argE, List.getElem?_cons_zero, List.getElem?_cons_succ, List.getElem?_nil, List.map_cons, List.map_nil, List.replicate, List.nil_append, List.cons_append, List.append_nil, Option.map_some, Option.map_none, if_true, if_false, reduceIte, List.length_cons, List.length_nil, Nat.reduceAdd, Nat.reduceSub, List.mapM_cons, List.mapM_nil, Option.bind_eq_bind, Option.bind_some, Option.pure_def, atI_lit, List.set_cons_zero, List.set_cons_succ, q_as1, q_as2, q_as3, q_as4, q_as5, q_wp0, q_wp1, q_kp0, q_kp1, q_ed0, q_ed1, Bool.false_eq_true, Bool.not_true, Bool.not_false, c1, c2, hdv, hni, r0, k0, pte]
      exact fin
    · rw [decide_eq_false c] at hni
      by_cases c' : ps.length < n
      · refine ⟨[some .src, some (.fz (.int (n : Nat))), some (.fz (.int (most : Nat))), some (.lst ((ps ++ [((j1 : Int), (j2 : Int))]).map pt)), some (.fz d), some (.fz (pt ((j1 : Int), (j2 : Int)))), none, none, none, none, none, none, none], some s2, .inl ?_, ps ++ [((j1 : Int), (j2 : Int))], s2, _, _, rfl, rfl, ⟨?_, ?_, ?_⟩, fun _ => by simp⟩
        · have cl : ((ps.length : Nat) : Int) < (n : Nat) := by omega
          simp only [e_ev_var, e_ev_cI, e_ev_cS, e_ev_cN, e_ev_cB, e_ev_neg, e_ev_tup, e_ev_lst, e_ev_bin, e_ev_cmp, e_ev_chn, e_ev_and, e_ev_or, e_ev_not, e_ev_ite, e_ev_sub, e_ev_slc, e_ev_rev, e_ev_call, e_ev_bi, e_ev_isi, e_ev_index, e_ev_pop, e_ev_popAt, e_evs_nil, e_evs_cons, e_evAnd_one, e_evAnd_more, e_evOr_one, e_evOr_more, e_evO_no, e_evO_yes, e_evI_seq, e_evI_rng1, e_evI_rng2, e_evI_enm, e_evI_zp, e_xS_asg, e_xS_set, e_xS_par, e_xS_par3, e_xS_exp, e_xS_app, e_xS_ext, e_xS_setIx, e_xS_ret, e_xS_ife, e_xS_pas, e_xS_brk, e_xS_cnt, e_xS_nev, e_xsl_nil, e_xsl_cons, q_bind, q_toS, q_seq1, q_seq2, q_seq3, q_seq4, q_end1, q_end2, q_tst, q_pick, q_ret1, q_ret2, q_ret3, q_dv1, q_dv2, q_es1, q_es2, q_ea0, q_ea1, q_ea2, q_ea3, q_ec1, line0, line1, line2, line3, line4, line5, line6, line7, line8, q_sk1, q_sk2, q_sk3, q_noX, q_hold1, q_hold2, q_frz1, id, q_goS, q_sv1, q_sv2, q_sv3, q_ub1, q_ub2, q_pv, parS, parS3, Nat.reduceLT, Nat.reduceLeDiff, q_andK, q_orK, q_chnK, q_ite1, q_ite2, q_ite3, q_ite4, q_ite5, decide_eq_true_eq, Bool.not_eq_true', decide_eq_false_iff_not, q_add, q_sub, q_lt, q_le, q_gt, q_ge, q_eqI, q_neI, q_len1, q_len2, q_int1, q_int2, q_min, q_max, q_tup1, q_tup2, q_lst1, q_lst2, q_subL, q_subT, q_slL, q_slT, argE, List.getElem?_cons_zero, List.getElem?_cons_succ, List.getElem?_nil, List.map_cons, List.map_nil, List.replicate, List.nil_append, List.cons_append, List.append_nil, Option.map_some, Option.map_none, if_true, if_false, reduceIte, List.length_cons, List.length_nil, Nat.reduceAdd, Nat.reduceSub, List.mapM_cons, List.mapM_nil, Option.bind_eq_bind, Option.bind_some, Option.pure_def, atI_lit, List.set_cons_zero, List.set_cons_succ, q_as1, q_as2, q_as3, q_as4, q_as5, q_wp0, q_wp1, q_kp0, q_kp1, q_ed0, q_ed1, Bool.false_eq_true, Bool.not_true, Bool.not_false, c1, c2, hdv, hni, List.length_map, cl, decide_true, r1, k1, pte, List.map_append]
        · simp; omega
        · intro p hp'
          rw [List.mem_append] at hp'
          rcases hp' with h | h
          · exact dr.sm p h
          · rw [List.mem_singleton] at h
            rw [h]; exact smp
        · rw [List.nodup_append]
          refine ⟨dr.nod, by simp, ?_⟩
          intro a ha b hb e
          rw [List.mem_singleton] at hb
          rw [e, hb] at ha
          exact c ha
      · refine ⟨[some .src, some (.fz (.int (n : Nat))), some (.fz (.int (most : Nat))), some (.lst (ps.map pt)), some (.fz d), some (.fz (pt ((j1 : Int), (j2 : Int)))), none, none, none, none, none, none, none], some s2, .inl ?_, ps, s2, _, _, rfl, rfl, dr, fun _ => by omega⟩
        have cl : ¬ ((ps.length : Nat) : Int) < (n : Nat) := by omega
        simp only [e_ev_var, e_ev_cI, e_ev_cS, e_ev_cN, e_ev_cB, e_ev_neg, e_ev_tup, e_ev_lst, e_ev_bin, e_ev_cmp, e_ev_chn, e_ev_and, e_ev_or, e_ev_not, e_ev_ite, e_ev_sub, e_ev_slc, e_ev_rev, e_ev_call, e_ev_bi, e_ev_isi, e_ev_index, e_ev_pop, e_ev_popAt, e_evs_nil, e_evs_cons, e_evAnd_one, e_evAnd_more, e_evOr_one, e_evOr_more, e_evO_no, e_evO_yes, e_evI_seq, e_evI_rng1, e_evI_rng2, e_evI_enm, e_evI_zp, e_xS_asg, e_xS_set, e_xS_par, e_xS_par3, e_xS_exp, e_xS_app, e_xS_ext, e_xS_setIx, e_xS_ret, e_xS_ife, e_xS_pas, e_xS_brk, e_xS_cnt, e_xS_nev, e_xsl_nil, e_xsl_cons, q_bind, q_toS, q_seq1, q_seq2, q_seq3, q_seq4, q_end1, q_end2, q_tst, q_pick, q_ret1, q_ret2, q_ret3, q_dv1, q_dv2, q_es1, q_es2, q_ea0, q_ea1, q_ea2, q_ea3, q_ec1, line0, line1, line2, line3, line4, line5, line6, line7, line8, q_sk1, q_sk2, q_sk3, q_noX, q_hold1, q_hold2, q_frz1, id, q_goS, q_sv1, q_sv2, q_sv3, q_ub1, q_ub2, q_pv, parS, parS3, Nat.reduceLT, Nat.reduceLeDiff, q_andK, q_orK, q_chnK, q_ite1, q_ite2, q_ite3, q_ite4, q_ite5, decide_eq_true_eq, Bool.not_eq_true', decide_eq_false_iff_not, q_add, q_sub, q_lt, q_le, q_gt, q_ge, q_eqI, q_neI, q_len1, q_len2, q_int1, q_int2, q_min, q_max, q_tup1, q_tup2, q_lst1, q_lst2, q_subL, q_subT, q_slL, q_slT, argE, List.getElem?_cons_zero, List.getElem?_cons_succ, List.getElem?_nil, List.map_cons, List.map_nil, List.replicate, List.nil_append, List.cons_append, List.append_nil, Option.map_some, Option.map_none, if_true, if_false, reduceIte, List.length_cons, List.length_nil, Nat.reduceAdd, Nat.reduceSub, List.mapM_cons, List.mapM_nil, Option.bind_eq_bind, Option.bind_some, Option.pure_def, atI_lit, List.set_cons_zero, List.set_cons_succ, q_as1, q_as2, q_as3, q_as4, q_as5, q_wp0, q_wp1, q_kp0, q_kp1, q_ed0, q_ed1, Bool.false_eq_true, Bool.not_true, Bool.not_false, c1, c2, hdv, hni, List.length_map, cl, decide_false, r0, k0, pte]
end K37

set_option Elab.async false
set_option linter.all false
set_option maxRecDepth 100000
set_option maxHeartbeats 8000000
set_option exponentiation.threshold 1000
set_option autoImplicit false
namespace K37
open PySem PySem.Spec L2 DL
/-! ### sorted ties -/
def sortT (ts : List Tie) : List Tie := ts.mergeSort fun a b => PySem.W.dataLe false id (tieD a) (tieD b)
theorem sortT_map (ts : List Tie) : (ts.map tieD).mergeSort (PySem.W.dataLe false id) = (sortT ts).map tieD := (List.map_mergeSort (f := tieD) (l := ts) (r := fun a b => PySem.W.dataLe false id (tieD a) (tieD b)) (s := PySem.W.dataLe false id) fun _ _ _ _ => rfl).symm
theorem sortT_perm (ts : List Tie) : (sortT ts).Perm ts := List.mergeSort_perm _ _
theorem sortOk_ties (ts : List Tie) (h : ts.length ≤ 1000000) : sortOk (ts.map tieD) = true := by
  unfold sortOk
  rw [Bool.and_eq_true, Bool.and_eq_true, Bool.and_eq_true]
  refine ⟨⟨⟨?_, ?_⟩, ?_⟩, ?_⟩
  · unfold sortShape
    rw [Bool.or_eq_true]
    left
    rw [List.all_eq_true]
    intro d hd
    rw [List.mem_map] at hd
    obtain ⟨t, _, rfl⟩ := hd
    rfl
  · rw [List.all_eq_true]
    intro d hd
    rw [List.all_eq_true]
    intro e he
    rw [List.mem_map] at hd he
    obtain ⟨t, _, rfl⟩ := hd
    obtain ⟨u, _, rfl⟩ := he
    rfl
  · rw [List.all_eq_true]
    intro d hd
    rw [List.mem_map] at hd
    obtain ⟨t, _, rfl⟩ := hd
    rw [decide_eq_true_eq]
    show (tieD t).depth ≤ 8
    simp [tieD, PyData.depth, PyData.depthAll]
  · rw [decide_eq_true_eq, List.length_map]
    exact line_ge h
theorem bi_sortL (ts : List Tie) (h : ts.length ≤ 1000000) : biD .sorted [.list (ts.map tieD)] = some (.lst ((sortT ts).map tieD)) := by
  rw [q_sorted (sortOk_ties ts h), sortT_map]
theorem bi_sortT (ts : List Tie) (h : ts.length ≤ 1000000) : biD .sorted [.tuple (ts.map tieD)] = some (.lst ((sortT ts).map tieD)) := by
  rw [q_sortedT (sortOk_ties ts h), sortT_map]
/-! ### the drawn ties -/
theorem draw_loop2 {fn : Fns} {n : Nat} (hn : n ≤ 8) (w : Wd) (x2 x3 x4 x5 x7 : Option EV) :
    ∃ (l : List Tie) (x8 : Option EV), xS fn (.for_ (.nm 8) (.rng1 (.var 1)) (.cons (.set 6 (.bin .add (.var 6) (.lc [("b", 12)] (.nm 12) (.rng2 (.bin .add (.var 8) (.cI 1)) (.var 1)) .nil (.tup (.cons (.var 8) (.cons (.var 12) .nil)))))) .nil)) [some .src, some (.fz (.int (n : Nat))), x2, x3, x4, x5, some (.lst []), x7, none, none, none, none, none] w
      = .nx [some .src, some (.fz (.int (n : Nat))), x2, x3, x4, x5, some (.lst (l.map tieD)), x7, x8, none, none, none, none] w ∧ l.length ≤ n * 8 ∧ ∀ t, t ∈ l → t.1 < n ∧ t.2 < n := by
  have L := for_ix (tg := .nm 8) (b := xsl fn (.cons (.set 6 (.bin .add (.var 6) (.lc [("b", 12)] (.nm 12) (.rng2 (.bin .add (.var 8) (.cI 1)) (.var 1)) .nil (.tup (.cons (.var 8) (.cons (.var 12) .nil)))))) .nil)) (ds := rngL 0 n) (env := [some .src, some (.fz (.int (n : Nat))), x2, x3, x4, x5, some (.lst []), x7, none, none, none, none, none]) (w := w)
    (J := fun i env w' => w' = w ∧ ∃ (l : List Tie) (x8 : Option EV), env = [some .src, some (.fz (.int (n : Nat))), x2, x3, x4, x5, some (.lst (l.map tieD)), x7, x8, none, none, none, none] ∧ l.length ≤ i * 8 ∧ ∀ t, t ∈ l → t.1 < n ∧ t.2 < n) ?_ ?_
  · obtain ⟨e2, w2, h1, rfl, l, x8, rfl, h2, h3⟩ := L
    rw [rngL_len] at h2
    refine ⟨l, x8, ?_, h2, h3⟩
    exact xS_forN (evI_rng1N (n := n) (e1 := [some .src, some (.fz (.int (n : Nat))), x2, x3, x4, x5, some (.lst []), x7, none, none, none, none, none]) (w1 := w2) (by simp only [e_ev_var, e_ev_cI, e_ev_cS, e_ev_cN, e_ev_cB, e_ev_neg, e_ev_tup, e_ev_lst, e_ev_bin, e_ev_cmp, e_ev_chn, e_ev_and, e_ev_or, e_ev_not, e_ev_ite, e_ev_sub, e_ev_slc, e_ev_rev, e_ev_call, e_ev_bi, e_ev_isi, e_ev_index, e_ev_pop, e_ev_popAt, e_evs_nil, e_evs_cons, e_evAnd_one, e_evAnd_more, e_evOr_one, e_evOr_more, e_evO_no, e_evO_yes, e_evI_seq, e_evI_rng1, e_evI_rng2, e_evI_enm, e_evI_zp, e_xS_asg, e_xS_set, e_xS_par, e_xS_par3, e_xS_exp, e_xS_app, e_xS_ext, e_xS_setIx, e_xS_ret, e_xS_ife, e_xS_pas, e_xS_brk, e_xS_cnt, e_xS_nev, e_xsl_nil, e_xsl_cons, q_bind, q_toS, q_seq1, q_seq2, q_seq3, q_seq4, q_end1, q_end2, q_tst, q_pick, q_ret1, q_ret2, q_ret3, q_dv1, q_dv2, q_es1, q_es2, q_ea0, q_ea1, q_ea2, q_ea3, q_ec1, line0, line1, line2, line3, line4, line5, line6, line7, line8, q_sk1, q_sk2, q_sk3, q_noX, q_hold1, q_hold2, q_frz1, id, q_goS, q_sv1, q_sv2, q_sv3, q_ub1, q_ub2, q_pv, parS, parS3, Nat.reduceLT, Nat.reduceLeDiff, q_andK, q_orK, q_chnK, q_ite1, q_ite2, q_ite3, q_ite4, q_ite5, decide_eq_true_eq, Bool.not_eq_true', decide_eq_false_iff_not, q_add, q_sub, q_lt, q_le, q_gt, q_ge, q_eqI, q_neI, q_len1, q_len2, q_int1, q_int2, q_min, q_max, q_tup1, q_tup2, q_lst1, q_lst2, q_subL, q_subT, q_slL, q_slT, argE, List.getElem?_cons_zero, List.getElem?_cons_succ, List.getElem?_nil, List.map_cons, List.map_nil, List.replicate, List.nil_append, List.cons_append, List.append_nil, Option.map_some, Option.map_none, if_true, if_false, reduceIte, List.length_cons, List.length_nil, Nat.reduceAdd, Nat.reduceSub, List.mapM_cons, List.mapM_nil, Option.bind_eq_bind, Option.bind_some, Option.pure_def, atI_lit, List.set_cons_zero, List.set_cons_succ, q_as1, q_as2, q_as3, q_as4, q_as5, q_wp0, q_wp1, q_kp0, q_kp1, q_ed0, q_ed1, Bool.false_eq_true, Bool.not_true, Bool.not_false]) (by omega)) h1
  · exact ⟨rfl, [], none, rfl, by simp, by simp⟩
  · rintro i d hd env w' ⟨rfl, l, x8, rfl, h1, h2⟩
    rw [rng0_at] at hd
    have hi : i < n := by
      by_cases q : i < n
      · exact q
      · rw [if_neg q] at hd; cases hd
    rw [if_pos hi] at hd
    cases hd
    refine ⟨[some .src, some (.fz (.int (n : Nat))), x2, x3, x4, x5, some (.lst (l.map tieD)), x7, some (.fz (.int (i : Nat))), none, none, none, none], by simp only [e_ev_var, e_ev_cI, e_ev_cS, e_ev_cN, e_ev_cB, e_ev_neg, e_ev_tup, e_ev_lst, e_ev_bin, e_ev_cmp, e_ev_chn, e_ev_and, e_ev_or, e_ev_not, e_ev_ite, e_ev_sub, e_ev_slc, e_ev_rev, e_ev_call, e_ev_bi, e_ev_isi, e_ev_index, e_ev_pop, e_ev_popAt, e_evs_nil, e_evs_cons, e_evAnd_one, e_evAnd_more, e_evOr_one, e_evOr_more, e_evO_no, e_evO_yes, e_evI_seq, e_evI_rng1, e_evI_rng2, e_evI_enm, e_evI_zp, e_xS_asg, e_xS_set, e_xS_par, e_xS_par3, e_xS_exp, e_xS_app, e_xS_ext, e_xS_setIx, e_xS_ret, e_xS_ife, e_xS_pas, e_xS_brk, e_xS_cnt, e_xS_nev, e_xsl_nil, e_xsl_cons, q_bind, q_toS, q_seq1, q_seq2, q_seq3, q_seq4, q_end1, q_end2, q_tst, q_pick, q_ret1, q_ret2, q_ret3, q_dv1, q_dv2, q_es1, q_es2, q_ea0, q_ea1, q_ea2, q_ea3, q_ec1, line0, line1, line2, line3, line4, line5, line6, line7, line8, q_sk1, q_sk2, q_sk3, q_noX, q_hold1, q_hold2, q_frz1, id, q_goS, q_sv1, q_sv2, q_sv3, q_ub1, q_ub2, q_pv, parS, parS3, Nat.reduceLT, Nat.reduceLeDiff, q_andK, q_orK, q_chnK, q_ite1, q_ite2, q_ite3, q_ite4, q_ite5, decide_eq_true_eq, Bool.not_eq_true', decide_eq_false_iff_not, q_add, q_sub, q_lt, q_le, q_gt, q_ge, q_eqI, q_neI, q_len1, q_len2, q_int1, q_int2, q_min, q_max, q_tup1, q_tup2, q_lst1, q_lst2, q_subL, q_subT, q_slL, q_slT, argE, List.getElem?_cons_zero, List.getElem?_cons_succ, List.getElem?_nil, List.map_cons, List.map_nil, List.replicate, List.nil_append, List.cons_append, List.append_nil, Option.map_some, Option.map_none, if_true, if_false, reduceIte, List.length_cons, List.length_nil, Nat.reduceAdd, Nat.reduceSub, List.mapM_cons, List.mapM_nil, Option.bind_eq_bind, Option.bind_some, Option.pure_def, atI_lit, List.set_cons_zero, List.set_cons_succ, q_as1, q_as2, q_as3, q_as4, q_as5, q_wp0, q_wp1, q_kp0, q_kp1, q_ed0, q_ed1, Bool.false_eq_true, Bool.not_true, Bool.not_false], ?_⟩
    have hL : ev fn (.lc [("b", 12)] (.nm 12) (.rng2 (.bin .add (.var 8) (.cI 1)) (.var 1)) .nil (.tup (.cons (.var 8) (.cons (.var 12) .nil)))) [some .src, some (.fz (.int (n : Nat))), x2, x3, x4, x5, some (.lst (l.map tieD)), x7, some (.fz (.int (i : Nat))), none, none, none, none] w'
        = .ok (.lst ((List.range' (i + 1) (n - (i + 1))).map fun b => tieD (i, b))) [some .src, some (.fz (.int (n : Nat))), x2, x3, x4, x5, some (.lst (l.map tieD)), x7, some (.fz (.int (i : Nat))), none, none, none, none] w' := by
      have := ev_mapM (fn := fn) (own := [("b", 12)]) (tg := .nm 12) (it := .rng2 (.bin .add (.var 8) (.cI 1)) (.var 1)) (elt := .tup (.cons (.var 8) (.cons (.var 12) .nil)))
        (env := [some .src, some (.fz (.int (n : Nat))), x2, x3, x4, x5, some (.lst (l.map tieD)), x7, some (.fz (.int (i : Nat))), none, none, none, none]) (e1 := [some .src, some (.fz (.int (n : Nat))), x2, x3, x4, x5, some (.lst (l.map tieD)), x7, some (.fz (.int (i : Nat))), none, none, none, none]) (w := w')
        (g := fun b : Nat => .int (b : Nat)) (at_ := none) (raw := []) (List.range' (i + 1) (n - (i + 1))) (fun b => tieD (i, b)) ?_ (line_ge (by simp; omega)) trivial ?_
      · exact this
      · rw [← rng1_map]
        exact evI_rng2N (e1 := [some .src, some (.fz (.int (n : Nat))), x2, x3, x4, x5, some (.lst (l.map tieD)), x7, some (.fz (.int (i : Nat))), none, none, none, none]) (w1 := w') (by simp only [e_ev_var, e_ev_cI, e_ev_cS, e_ev_cN, e_ev_cB, e_ev_neg, e_ev_tup, e_ev_lst, e_ev_bin, e_ev_cmp, e_ev_chn, e_ev_and, e_ev_or, e_ev_not, e_ev_ite, e_ev_sub, e_ev_slc, e_ev_rev, e_ev_call, e_ev_bi, e_ev_isi, e_ev_index, e_ev_pop, e_ev_popAt, e_evs_nil, e_evs_cons, e_evAnd_one, e_evAnd_more, e_evOr_one, e_evOr_more, e_evO_no, e_evO_yes, e_evI_seq, e_evI_rng1, e_evI_rng2, e_evI_enm, e_evI_zp, e_xS_asg, e_xS_set, e_xS_par, e_xS_par3, e_xS_exp, e_xS_app, e_xS_ext, e_xS_setIx, e_xS_ret, e_xS_ife, e_xS_pas, e_xS_brk, e_xS_cnt, e_xS_nev, e_xsl_nil, e_xsl_cons, q_bind, q_toS, q_seq1, q_seq2, q_seq3, q_seq4, q_end1, q_end2, q_tst, q_pick, q_ret1, q_ret2, q_ret3, q_dv1, q_dv2, q_es1, q_es2, q_ea0, q_ea1, q_ea2, q_ea3, q_ec1, line0, line1, line2, line3, line4, line5, line6, line7, line8, q_sk1, q_sk2, q_sk3, q_noX, q_hold1, q_hold2, q_frz1, id, q_goS, q_sv1, q_sv2, q_sv3, q_ub1, q_ub2, q_pv, parS, parS3, Nat.reduceLT, Nat.reduceLeDiff, q_andK, q_orK, q_chnK, q_ite1, q_ite2, q_ite3, q_ite4, q_ite5, decide_eq_true_eq, Bool.not_eq_true', decide_eq_false_iff_not, q_add, q_sub, q_lt, q_le, q_gt, q_ge, q_eqI, q_neI, q_len1, q_len2, q_int1, q_int2, q_min, q_max, q_tup1, q_tup2, q_lst1, q_lst2, q_subL, q_subT, q_slL, q_slT, argE, List.getElem?_cons_zero, List.getElem?_cons_succ, List.getElem?_nil, List.map_cons, List.map_nil, List.replicate, List.nil_append, List.cons_append, List.append_nil, Option.map_some, Option.map_none, if_true, if_false, reduceIte, List.length_cons, List.length_nil, Nat.reduceAdd, Nat.reduceSub, List.mapM_cons, List.mapM_nil, Option.bind_eq_bind, Option.bind_some, Option.pure_def, atI_lit, List.set_cons_zero, List.set_cons_succ, q_as1, q_as2, q_as3, q_as4, q_as5, q_wp0, q_wp1, q_kp0, q_kp1, q_ed0, q_ed1, Bool.false_eq_true, Bool.not_true, Bool.not_false]) (by omega) (by simp only [e_ev_var, e_ev_cI, e_ev_cS, e_ev_cN, e_ev_cB, e_ev_neg, e_ev_tup, e_ev_lst, e_ev_bin, e_ev_cmp, e_ev_chn, e_ev_and, e_ev_or, e_ev_not, e_ev_ite, e_ev_sub, e_ev_slc, e_ev_rev, e_ev_call, e_ev_bi, e_ev_isi, e_ev_index, e_ev_pop, e_ev_popAt, e_evs_nil, e_evs_cons, e_evAnd_one, e_evAnd_more, e_evOr_one, e_evOr_more, e_evO_no, e_evO_yes, e_evI_seq, e_evI_rng1, e_evI_rng2, e_evI_enm, e_evI_zp, e_xS_asg, e_xS_set, e_xS_par, e_xS_par3, e_xS_exp, e_xS_app, e_xS_ext, e_xS_setIx, e_xS_ret, e_xS_ife, e_xS_pas, e_xS_brk, e_xS_cnt, e_xS_nev, e_xsl_nil, e_xsl_cons, q_bind, q_toS, q_seq1, q_seq2, q_seq3, q_seq4, q_end1, q_end2, q_tst, q_pick, q_ret1, q_ret2, q_ret3, q_dv1, q_dv2, q_es1, q_es2, q_ea0, q_ea1, q_ea2, q_ea3, q_ec1, line0, line1, line2, line3, line4, line5, line6, line7, line8, q_sk1, q_sk2, q_sk3, q_noX, q_hold1, q_hold2, q_frz1, id, q_goS, q_sv1, q_sv2, q_sv3, q_ub1, q_ub2, q_pv, parS, parS3, Nat.reduceLT, Nat.reduceLeDiff, q_andK, q_orK, q_chnK, q_ite1, q_ite2, q_ite3, q_ite4, q_ite5, decide_eq_true_eq, Bool.not_eq_true', decide_eq_false_iff_not, q_add, q_sub, q_lt, q_le, q_gt, q_ge, q_eqI, q_neI, q_len1, q_len2, q_int1, q_int2, q_min, q_max, q_tup1, q_tup2, q_lst1, q_lst2, q_subL, q_subT, q_slL, q_slT, argE, List.getElem?_cons_zero, List.getElem?_cons_succ, List.getElem?_nil, List.map_cons, List.map_nil, List.replicate, List.nil_append, List.cons_append, List.append_nil, Option.map_some, Option.map_none, if_true, if_false, reduceIte, List.length_cons, List.length_nil, Nat.reduceAdd, Nat.reduceSub, List.mapM_cons, List.mapM_nil, Option.bind_eq_bind, Option.bind_some, Option.pure_def, atI_lit, List.set_cons_zero, List.set_cons_succ, q_as1, q_as2, q_as3, q_as4, q_as5, q_wp0, q_wp1, q_kp0, q_kp1, q_ed0, q_ed1, Bool.false_eq_true, Bool.not_true, Bool.not_false]) (by omega)
      · intro b hb
        refine ⟨[some .src, some (.fz (.int (n : Nat))), x2, x3, x4, x5, some (.lst (l.map tieD)), x7, some (.fz (.int (i : Nat))), none, none, none, some (.fz (.int (b : Nat)))], .fz (tieD (i, b)), by simp only [e_ev_var, e_ev_cI, e_ev_cS, e_ev_cN, e_ev_cB, e_ev_neg, e_ev_tup, e_ev_lst, e_ev_bin, e_ev_cmp, e_ev_chn, e_ev_and, e_ev_or, e_ev_not, e_ev_ite, e_ev_sub, e_ev_slc, e_ev_rev, e_ev_call, e_ev_bi, e_ev_isi, e_ev_index, e_ev_pop, e_ev_popAt, e_evs_nil, e_evs_cons, e_evAnd_one, e_evAnd_more, e_evOr_one, e_evOr_more, e_evO_no, e_evO_yes, e_evI_seq, e_evI_rng1, e_evI_rng2, e_evI_enm, e_evI_zp, e_xS_asg, e_xS_set, e_xS_par, e_xS_par3, e_xS_exp, e_xS_app, e_xS_ext, e_xS_setIx, e_xS_ret, e_xS_ife, e_xS_pas, e_xS_brk, e_xS_cnt, e_xS_nev, e_xsl_nil, e_xsl_cons, q_bind, q_toS, q_seq1, q_seq2, q_seq3, q_seq4, q_end1, q_end2, q_tst, q_pick, q_ret1, q_ret2, q_ret3, q_dv1, q_dv2, q_es1, q_es2, q_ea0, q_ea1, q_ea2, q_ea3, q_ec1, line0, line1, line2, line3, line4, line5, line6, line7, line8, q_sk1, q_sk2, q_sk3, q_noX, q_hold1, q_hold2, q_frz1, id, q_goS, q_sv1, q_sv2, q_sv3, q_ub1, q_ub2, q_pv, parS, parS3, Nat.reduceLT, Nat.reduceLeDiff, q_andK, q_orK, q_chnK, q_ite1, q_ite2, q_ite3, q_ite4, q_ite5, decide_eq_true_eq, Bool.not_eq_true', decide_eq_false_iff_not, q_add, q_sub, q_lt, q_le, q_gt, q_ge, q_eqI, q_neI, q_len1, q_len2, q_int1, q_int2, q_min, q_max, q_tup1, q_tup2, q_lst1, q_lst2, q_subL, q_subT, q_slL, q_slT, argE, List.getElem?_cons_zero, List.getElem?_cons_succ, List.getElem?_nil, List.map_cons, List.map_nil, List.replicate, List.nil_append, List.cons_append, List.append_nil, Option.map_some, Option.map_none, if_true, if_false, reduceIte, List.length_cons, List.length_nil, Nat.reduceAdd, Nat.reduceSub, List.mapM_cons, List.mapM_nil, Option.bind_eq_bind, Option.bind_some, Option.pure_def, atI_lit, List.set_cons_zero, List.set_cons_succ, q_as1, q_as2, q_as3, q_as4, q_as5, q_wp0, q_wp1, q_kp0, q_kp1, q_ed0, q_ed1, Bool.false_eq_true, Bool.not_true, Bool.not_false], ?_, rfl, rfl⟩
        simp only [e_ev_var, e_ev_cI, e_ev_cS, e_ev_cN, e_ev_cB, e_ev_neg, e_ev_tup, e_ev_lst, e_ev_bin, e_ev_cmp, e_ev_chn, e_ev_and, e_ev_or, e_ev_not, e_ev_ite, e_ev_sub, e_ev_slc, e_ev_rev, e_ev_call, e_ev_bi, e_ev_isi, e_ev_index, e_ev_pop, e_ev_popAt, e_evs_nil, e_evs_cons, e_evAnd_one, e_evAnd_more, e_evOr_one, e_evOr_more, e_evO_no, e_evO_yes, e_evI_seq, e_evI_rng1, e_evI_rng2, e_evI_enm, e_evI_zp, e_xS_asg, e_xS_set, e_xS_par, e_xS_par3, e_xS_exp, e_xS_app, e_xS_ext, e_xS_setIx, e_xS_ret, e_xS_ife, e_xS_pas, e_xS_brk, e_xS_cnt, e_xS_nev, e_xsl_nil, e_xsl_cons, q_bind, q_toS, q_seq1, q_seq2, q_seq3, q_seq4, q_end1, q_end2, q_tst, q_pick, q_ret1, q_ret2, q_ret3, q_dv1, q_dv2, q_es1, q_es2, q_ea0, q_ea1, q_ea2, q_ea3, q_ec1, line0, line1, line2, line3, line4, line5, line6, line7, line8, q_sk1, q_sk2, q_sk3, q_noX, q_hold1, q_hold2, q_frz1, id, q_goS, q_sv1, q_sv2, q_sv3, q_ub1, q_ub2, q_pv, parS, parS3, Nat.reduceLT, Nat.reduceLeDiff, q_andK, q_orK, q_chnK, q_ite1, q_ite2, q_ite3, q_ite4, q_ite5, decide_eq_true_eq, Bool.not_eq_true', decide_eq_false_iff_not, q_add, q_sub, q_lt, q_le, q_gt, q_ge, q_eqI, q_neI, q_len1, q_len2, q_int1, q_int2, q_min, q_max, q_tup1, q_tup2, q_lst1, q_lst2, q_subL, q_subT, q_slL, q_slT, argE, List.getElem?_cons_zero, List.getElem?_cons_succ, List.getElem?_nil, List.map_cons, List.map_nil, List.replicate, List.nil_append, List.cons_append, List.append_nil, Option.map_some, Option.map_none, if_true, if_false, reduceIte, List.length_cons, List.length_nil, Nat.reduceAdd, Nat.reduceSub, List.mapM_cons, List.mapM_nil, Option.bind_eq_bind, Option.bind_some, Option.pure_def, atI_lit, List.set_cons_zero, List.set_cons_succ, q_as1, q_as2, q_as3, q_as4, q_as5, q_wp0, q_wp1, q_kp0, q_kp1, q_ed0, q_ed1, Bool.false_eq_true, Bool.not_true, Bool.not_false, tieD]
    have hdv : dval [some .src, some (.fz (.int (n : Nat))), x2, x3, x4, x5, some (.lst (l.map tieD)), x7, some (.fz (.int (i : Nat))), none, none, none, none] (.bor 6) = some (.list (l.map tieD)) := rfl
    have hil : i * 8 ≤ 64 := by omega
    have hcat : binD .add (.list (l.map tieD)) (.list ((List.range' (i + 1) (n - (i + 1))).map fun b => tieD (i, b))) = some (.lst ((l ++ (List.range' (i + 1) (n - (i + 1))).map fun b => (i, b)).map tieD)) := by
      rw [q_catL (line_ge (by simp; omega)), List.map_append, List.map_map]
      rfl
    refine ⟨[some .src, some (.fz (.int (n : Nat))), x2, x3, x4, x5, some (.lst ((l ++ (List.range' (i + 1) (n - (i + 1))).map fun b => (i, b)).map tieD)), x7, some (.fz (.int (i : Nat))), none, none, none, none], w', .inl ?_, rfl, l ++ (List.range' (i + 1) (n - (i + 1))).map fun b => (i, b), _, rfl, ?_, ?_⟩
    · simp only [e_ev_var, e_ev_cI, e_ev_cS, e_ev_cN, e_ev_cB, e_ev_neg, e_ev_tup, e_ev_lst, e_ev_bin, e_ev_cmp, e_ev_chn, e_ev_and, e_ev_or, e_ev_not, e_ev_ite, e_ev_sub, e_ev_slc, e_ev_rev, e_ev_call, e_ev_bi, e_ev_isi, e_ev_index, e_ev_pop, e_ev_popAt, e_evs_nil, e_evs_cons, e_evAnd_one, e_evAnd_more, e_evOr_one, e_evOr_more, e_evO_no, e_evO_yes, e_evI_seq, e_evI_rng1, e_evI_rng2, e_evI_enm, e_evI_zp, e_xS_asg, e_xS_set, e_xS_par, e_xS_par3, e_xS_exp, e_xS_app, e_xS_ext, e_xS_setIx, e_xS_ret, e_xS_ife, e_xS_pas, e_xS_brk, e_xS_cnt, e_xS_nev, e_xsl_nil, e_xsl_cons, q_bind, q_toS, q_seq1, q_seq2, q_seq3, q_seq4, q_end1, q_end2, q_tst, q_pick, q_ret1, q_ret2, q_ret3, q_dv1, q_dv2, q_es1, q_es2, q_ea0, q_ea1, q_ea2, q_ea3, q_ec1, line0, line1, line2, line3, line4, line5, line6, line7, line8, q_sk1, q_sk2, q_sk3, q_noX, q_hold1, q_hold2, q_frz1, id, q_goS, q_sv1, q_sv2, q_sv3, q_ub1, q_ub2, q_pv, parS, parS3, Nat.reduceLT, Nat.reduceLeDiff, q_andK, q_orK, q_chnK, q_ite1, q_ite2, q_ite3, q_ite4, q_ite5, decide_eq_true_eq, Bool.not_eq_true', decide_eq_false_iff_not, q_add, q_sub, q_lt, q_le, q_gt, q_ge, q_eqI, q_neI, q_len1, q_len2, q_int1, q_int2, q_min, q_max, q_tup1, q_tup2, q_lst1, q_lst2, q_subL, q_subT, q_slL, q_slT, argE, List.getElem?_cons_zero, List.getElem?_cons_succ, List.getElem?_nil, List.map_cons, List.map_nil, List.replicate, List.nil_append, List.cons_append, List.append_nil, Option.map_some, Option.map_none, if_true, if_false, reduceIte, List.length_cons, List.length_nil, Nat.reduceAdd, Nat.reduceSub, List.mapM_cons, List.mapM_nil, Option.bind_eq_bind, Option.bind_some, Option.pure_def, atI_lit, List.set_cons_zero, List.set_cons_succ, q_as1, q_as2, q_as3, q_as4, q_as5, q_wp0, q_wp1, q_kp0, q_kp1, q_ed0, q_ed1, Bool.false_eq_true, Bool.not_true, Bool.not_false, hL, hdv, hcat]
    · simp; omega
    · intro t ht
      rw [List.mem_append, List.mem_map] at ht
      rcases ht with h | ⟨b, hb, rfl⟩
      · exact h2 t h
      · rw [List.mem_range'] at hb
        exact ⟨hi, by show b < n; omega⟩
end K37

set_option Elab.async false
set_option linter.all false
set_option maxRecDepth 100000
set_option maxHeartbeats 8000000
set_option exponentiation.threshold 1000
set_option autoImplicit false
namespace K37
open PySem PySem.Spec L2 DL
theorem same_none {n : Nat} {ps : List Pt} (hl : ps.length = n) (h : ps.Nodup) : sameAll n ps = none := by
  unfold sameAll
  rw [List.findSome?_eq_none_iff]
  intro a ha
  unfold sameIn
  rw [List.findSome?_eq_none_iff]
  intro b hb
  rw [List.mem_range] at ha
  rw [List.mem_range'] at hb
  unfold sameOf
  rw [if_neg]
  intro e
  have ha' : a < ps.length := by omega
  have hb' : b < ps.length := by omega
  unfold at_ at e
  simp only [List.getD_eq_getElem?_getD, List.getElem?_eq_getElem ha', List.getElem?_eq_getElem hb', Option.getD_some] at e
  exact (List.pairwise_iff_getElem.mp h) a b ha' hb' (by omega) e
theorem clear0 {n : Nat} {ps : List Pt} (hl : ps.length = n) (h : ps.Nodup) : Fault n (sortT []) ps .none := by
  have e : sortT [] = [] := by simp [sortT]
  rw [e]
  refine .clear (same_none hl h) ?_ rfl
  unfold onAll
  rw [List.findSome?_eq_none_iff]
  intro a _
  rfl
/-- whether a fault is none -/
theorem isn_dec {n : Nat} {ts : List Tie} {ps : List Pt} {d : PyData} (f : Fault n ts ps d) : ∃ b : Bool, cmpD .isn d .none = some b ∧ (b = true → Fault n ts ps .none) := by
  cases f with
  | same ha hb h => exact ⟨false, rfl, fun h => nomatch h⟩
  | on ha ht h h' => exact ⟨false, rfl, fun h => nomatch h⟩
  | cross hs ht h h' h'' => exact ⟨false, rfl, fun h => nomatch h⟩
  | clear h h' h'' => exact ⟨true, rfl, fun _ => .clear h h' h''⟩
def Looks (fn : Fns) : Prop := ∀ (w : Wd) (n : Nat) (ts : List Tie) (ps : List Pt), Ok n ts ps → ∀ d, Fault n ts ps d → fn 14 [.fz (webD n ts), .fz (plD ps)] w = .ok (.fz d) w
theorem m_looks (k : Nat) : Looks (fnAt tab (k + 5)) := fun w _ _ _ o _ f => m_law_fault k w o f
structure PsOk (n : Nat) (ps : List Pt) : Prop where
  n1 : 1 ≤ n
  n8 : n ≤ 8
  len : ps.length = n
  sm : ∀ p, p ∈ ps → SmP p
  nod : ps.Nodup
theorem PsOk.ok {n : Nat} {ps : List Pt} (o : PsOk n ps) {ts : List Tie} (h : ∀ t, t ∈ ts → t.1 < n ∧ t.2 < n) (h' : ts.length ≤ 100) : Ok n ts ps := ⟨o.n1, by have := o.n8; omega, o.len, o.sm, h, h'⟩
theorem draw_loop3 {fn : Fns} (hp : Picks fn) (hF : Looks fn) {n : Nat} {ps : List Pt} (o : PsOk n ps) {q : Nat} (hq : q < 4) (s : Src) (x2 x4 x5 x6 x8 : Option EV) (out : List PyData) (hout : ∀ d, d ∈ out → ∃ t : Tie, d = tieD t ∧ t.1 < n ∧ t.2 < n) (hl : out.length ≤ 64) :
    ∃ (ties : List Tie) (s' : Src) (x10 x11 : Option EV), forGo (.nm 10) (xsl fn (.cons (.set 11 (.tup (.cons (.var 1) (.cons (.bi .tuple (.cons (.bi .sorted (.cons (.bin .add (.var 7) (.lst (.cons (.var 10) .nil))) .nil)) .nil)) .nil)))) (.cons (.ife (.and (.cons (.or (.cons (.cmp .eq (.var 9) (.cI 0)) (.cons (.cmp .gt (.call 8 (.cons (.var 0) (.cons (.bin .add (.var 9) (.cI 2)) .nil))) (.cI 0)) .nil))) (.cons (.cmp .isn (.call 14 (.cons (.var 11) (.cons (.bi .tuple (.cons (.var 3) .nil)) .nil))) .cN) .nil))) (.cons (.set 7 (.bin .add (.var 7) (.lst (.cons (.var 10) .nil)))) .nil) .nil) .nil))) out [some .src, some (.fz (.int (n : Nat))), x2, some (.lst (ps.map pt)), x4, x5, x6, some (.lst []), x8, some (.fz (.int (q : Nat))), none, none, none] (some s)
      = .nx [some .src, some (.fz (.int (n : Nat))), x2, some (.lst (ps.map pt)), x4, x5, x6, some (.lst (ties.map tieD)), x8, some (.fz (.int (q : Nat))), x10, x11, none] (some s')
      ∧ Fault n (sortT ties) ps .none ∧ (∀ t, t ∈ ties → t.1 < n ∧ t.2 < n) ∧ ties.length ≤ 64 := by
  have L := for_ix (tg := .nm 10) (b := xsl fn (.cons (.set 11 (.tup (.cons (.var 1) (.cons (.bi .tuple (.cons (.bi .sorted (.cons (.bin .add (.var 7) (.lst (.cons (.var 10) .nil))) .nil)) .nil)) .nil)))) (.cons (.ife (.and (.cons (.or (.cons (.cmp .eq (.var 9) (.cI 0)) (.cons (.cmp .gt (.call 8 (.cons (.var 0) (.cons (.bin .add (.var 9) (.cI 2)) .nil))) (.cI 0)) .nil))) (.cons (.cmp .isn (.call 14 (.cons (.var 11) (.cons (.bi .tuple (.cons (.var 3) .nil)) .nil))) .cN) .nil))) (.cons (.set 7 (.bin .add (.var 7) (.lst (.cons (.var 10) .nil)))) .nil) .nil) .nil))) (ds := out) (env := [some .src, some (.fz (.int (n : Nat))), x2, some (.lst (ps.map pt)), x4, x5, x6, some (.lst []), x8, some (.fz (.int (q : Nat))), none, none, none]) (w := some s)
    (J := fun i env w' => ∃ (ties : List Tie) (s' : Src) (x10 x11 : Option EV), w' = some s' ∧ env = [some .src, some (.fz (.int (n : Nat))), x2, some (.lst (ps.map pt)), x4, x5, x6, some (.lst (ties.map tieD)), x8, some (.fz (.int (q : Nat))), x10, x11, none]
      ∧ Fault n (sortT ties) ps .none ∧ (∀ t, t ∈ ties → t.1 < n ∧ t.2 < n) ∧ ties.length ≤ i) ?_ ?_
  · obtain ⟨e2, w2, h1, ties, s', x10, x11, rfl, rfl, h2, h3, h4⟩ := L
    exact ⟨ties, s', x10, x11, h1, h2, h3, by omega⟩
  · exact ⟨[], s, none, none, rfl, rfl, clear0 o.len o.nod, by simp, by simp⟩
  · rintro i d hd env w' ⟨ties, s', x10, x11, rfl, rfl, cl, hb, hlen⟩
    obtain ⟨hi, rfl⟩ := List.getElem?_eq_some_iff.mp hd
    obtain ⟨t, ht, htn⟩ := hout _ (List.getElem_mem hi)
    rw [ht]
    refine ⟨[some .src, some (.fz (.int (n : Nat))), x2, some (.lst (ps.map pt)), x4, x5, x6, some (.lst (ties.map tieD)), x8, some (.fz (.int (q : Nat))), some (.fz (tieD t)), x11, none], by simp only [e_ev_var, e_ev_cI, e_ev_cS, e_ev_cN, e_ev_cB, e_ev_neg, e_ev_tup, e_ev_lst, e_ev_bin, e_ev_cmp, e_ev_chn, e_ev_and, e_ev_or, e_ev_not, e_ev_ite, e_ev_sub, e_ev_slc, e_ev_rev, e_ev_call, e_ev_bi, e_ev_isi, e_ev_index, e_ev_pop, e_ev_popAt, e_evs_nil, e_evs_cons, e_evAnd_one, e_evAnd_more, e_evOr_one, e_evOr_more, e_evO_no, e_evO_yes, e_evI_seq, e_evI_rng1, e_evI_rng2, e_evI_enm, e_evI_zp, e_xS_asg, e_xS_set, e_xS_par, e_xS_par3, e_xS_exp, e_xS_app, e_xS_ext, e_xS_setIx, e_xS_ret, e_xS_ife, e_xS_pas, e_xS_brk, e_xS_cnt, e_xS_nev, e_xsl_nil, e_xsl_cons, q_bind, q_toS, q_seq1, q_seq2, q_seq3, q_seq4, q_end1, q_end2, q_tst, q_pick, q_ret1, q_ret2, q_ret3, q_dv1, q_dv2, q_es1, q_es2, q_ea0, q_ea1, q_ea2, q_ea3, q_ec1, line0, line1, line2, line3, line4, line5, line6, line7, line8, q_sk1, q_sk2, q_sk3, q_noX, q_hold1, q_hold2, q_frz1, id, q_goS, q_sv1, q_sv2, q_sv3, q_ub1, q_ub2, q_pv, parS, parS3, Nat.reduceLT, Nat.reduceLeDiff, q_andK, q_orK, q_chnK, q_ite1, q_ite2, q_ite3, q_ite4, q_ite5, decide_eq_true_eq, Bool.not_eq_true', decide_eq_false_iff_not, q_add, q_sub, q_lt, q_le, q_gt, q_ge, q_eqI, q_neI, q_len1, q_len2, q_int1, q_int2, q_min, q_max, q_tup1, q_tup2, q_lst1, q_lst2, q_subL, q_subT, q_slL, q_slT, argE, List.getElem?_cons_zero, List.getElem?_cons_succ, List.getElem?_nil, List.map_cons, List.map_nil, List.replicate, List.nil_append, List.cons_append, List.append_nil, Option.map_some, Option.map_none, if_true, if_false, reduceIte, List.length_cons, List.length_nil, Nat.reduceAdd, Nat.reduceSub, List.mapM_cons, List.mapM_nil, Option.bind_eq_bind, Option.bind_some, Option.pure_def, atI_lit, List.set_cons_zero, List.set_cons_succ, q_as1, q_as2, q_as3, q_as4, q_as5, q_wp0, q_wp1, q_kp0, q_kp1, q_ed0, q_ed1, Bool.false_eq_true, Bool.not_true, Bool.not_false], ?_⟩
    have hts : ∀ u, u ∈ ties ++ [t] → u.1 < n ∧ u.2 < n := by
      intro u hu
      rw [List.mem_append, List.mem_singleton] at hu
      rcases hu with h | rfl
      · exact hb u h
      · exact htn
    have hsl : (sortT (ties ++ [t])).length ≤ 100 := by
      rw [(sortT_perm _).length_eq]; simp; omega
    have ok : Ok n (sortT (ties ++ [t])) ps := o.ok (fun u hu => hts u ((sortT_perm _).mem_iff.mp hu)) hsl
    obtain ⟨fd, hfd⟩ := fault_is ok
    obtain ⟨b, hisn, hclr⟩ := isn_dec hfd
    have hcat : binD .add (.list (ties.map tieD)) (.list [tieD t]) = some (.lst ((ties ++ [t]).map tieD)) := by
      rw [q_catL (line_ge (by simp; omega)), List.map_append]; rfl
    have hsort := bi_sortL (ties ++ [t]) (by simp; omega)
    have hdv7 : ∀ x11 : Option EV, dval [some .src, some (.fz (.int (n : Nat))), x2, some (.lst (ps.map pt)), x4, x5, x6, some (.lst (ties.map tieD)), x8, some (.fz (.int (q : Nat))), some (.fz (tieD t)), x11, none] (.bor 7) = some (.list (ties.map tieD)) := fun _ => rfl
    have hdv3 : ∀ x11 : Option EV, dval [some .src, some (.fz (.int (n : Nat))), x2, some (.lst (ps.map pt)), x4, x5, x6, some (.lst (ties.map tieD)), x8, some (.fz (.int (q : Nat))), some (.fz (tieD t)), x11, none] (.bor 3) = some (.list (ps.map pt)) := fun _ => rfl
    have hlate : ev fn (.tup (.cons (.var 1) (.cons (.bi .tuple (.cons (.bi .sorted (.cons (.bin .add (.var 7) (.lst (.cons (.var 10) .nil))) .nil)) .nil)) .nil))) [some .src, some (.fz (.int (n : Nat))), x2, some (.lst (ps.map pt)), x4, x5, x6, some (.lst (ties.map tieD)), x8, some (.fz (.int (q : Nat))), some (.fz (tieD t)), x11, none] (some s')
        = .ok (.fz (webD n (sortT (ties ++ [t])))) [some .src, some (.fz (.int (n : Nat))), x2, some (.lst (ps.map pt)), x4, x5, x6, some (.lst (ties.map tieD)), x8, some (.fz (.int (q : Nat))), some (.fz (tieD t)), x11, none] (some s') := by
      simp only [e_ev_var, e_ev_cI, e_ev_cS, e_ev_cN, e_ev_cB, e_ev_neg, e_ev_tup, e_ev_lst, e_ev_bin, e_ev_cmp, e_ev_chn, e_ev_and, e_ev_or, e_ev_not, e_ev_ite, e_ev_sub, e_ev_slc, e_ev_rev, e_ev_call, e_ev_bi, e_ev_isi, e_ev_index, e_ev_pop, e_ev_popAt, e_evs_nil, e_evs_cons, e_evAnd_one, e_evAnd_more, e_evOr_one, e_evOr_more, e_evO_no, e_evO_yes, e_evI_seq, e_evI_rng1, e_evI_rng2, e_evI_enm, e_evI_zp, e_xS_asg, e_xS_set, e_xS_par, e_xS_par3, e_xS_exp, e_xS_app, e_xS_ext, e_xS_setIx, e_xS_ret, e_xS_ife, e_xS_pas, e_xS_brk, e_xS_cnt, e_xS_nev, e_xsl_nil, e_xsl_cons, q_bind, q_toS, q_seq1, q_seq2, q_seq3, q_seq4, q_end1, q_end2, q_tst, q_pick, q_ret1, q_ret2, q_ret3, q_dv1, q_dv2, q_es1, q_es2, q_ea0, q_ea1, q_ea2, q_ea3, q_ec1, line0, line1, line2, line3, line4, line5, line6, line7, line8, q_sk1, q_sk2, q_sk3, q_noX, q_hold1, q_hold2, q_frz1, id, q_goS, q_sv1, q_sv2, q_sv3, q_ub1, q_ub2, q_pv, parS, parS3, Nat.reduceLT, Nat.reduceLeDiff, q_andK, q_orK, q_chnK, q_ite1, q_ite2, q_ite3, q_ite4, q_ite5, decide_eq_true_eq, Bool.not_eq_true', decide_eq_false_iff_not, q_add, q_sub, q_lt, q_le, q_gt, q_ge, q_eqI, q_neI, q_len1, q_len2, q_int1, q_int2, q_min, q_max, q_tup1, q_tup2, q_lst1, q_lst2, q_subL, q_subT, q_slL, q_slT, argE, List.getElem?_cons_zero, List.getElem?_cons_succ, List.getElem?_nil, List.map_cons, List.map_nil, List.replicate, List.nil_append, List.cons_append, List.append_nil, Option.map_some, Option.map_none, if_true, if_false, reduceIte, List.length_cons, List.length_nil, Nat.reduceAdd, Nat.reduceSub, List.mapM_cons, List.mapM_nil, Option.bind_eq_bind, Option.bind_some, Option.pure_def, atI_lit, List.set_cons_zero, List.set_cons_succ, q_as1, q_as2, q_as3, q_as4, q_as5, q_wp0, q_wp1, q_kp0, q_kp1, q_ed0, q_ed1, Bool.false_eq_true, Bool.not_true, Bool.not_false, hdv7, hcat, hsort, webD, tiesD]
    have hf : ∀ s'' : Src, fn 14 [.fz (webD n (sortT (ties ++ [t]))), .fz (.tuple (ps.map pt))] (some s'') = .ok (.fz fd) (some s'') := fun s'' => hF (some s'') n _ ps ok fd hfd
    have htest : ∃ (b' : Bool) (s'' : Src), (b' = true → b = true) ∧ ev fn (.and (.cons (.or (.cons (.cmp .eq (.var 9) (.cI 0)) (.cons (.cmp .gt (.call 8 (.cons (.var 0) (.cons (.bin .add (.var 9) (.cI 2)) .nil))) (.cI 0)) .nil))) (.cons (.cmp .isn (.call 14 (.cons (.var 11) (.cons (.bi .tuple (.cons (.var 3) .nil)) .nil))) .cN) .nil))) [some .src, some (.fz (.int (n : Nat))), x2, some (.lst (ps.map pt)), x4, x5, x6, some (.lst (ties.map tieD)), x8, some (.fz (.int (q : Nat))), some (.fz (tieD t)), some (.fz (webD n (sortT (ties ++ [t])))), none] (some s')
        = .ok (.fz (.bool b')) [some .src, some (.fz (.int (n : Nat))), x2, some (.lst (ps.map pt)), x4, x5, x6, some (.lst (ties.map tieD)), x8, some (.fz (.int (q : Nat))), some (.fz (tieD t)), some (.fz (webD n (sortT (ties ++ [t])))), none] (some s'') := by
      by_cases q0 : q = 0
      · refine ⟨b, s', fun h => h, ?_⟩
        have q0' : (((q : Nat) : Int) = 0) = True := eq_true (by omega)
        simp only [e_ev_var, e_ev_cI, e_ev_cS, e_ev_cN, e_ev_cB, e_ev_neg, e_ev_tup, e_ev_lst, e_ev_bin, e_ev_cmp, e_ev_chn, e_ev_and, e_ev_or, e_ev_not, e_ev_ite, e_ev_sub, e_ev_slc, e_ev_rev, e_ev_call, e_ev_bi, e_ev_isi, e_ev_index, e_ev_pop, e_ev_popAt, e_evs_nil, e_evs_cons, e_evAnd_one, e_evAnd_more, e_evOr_one, e_evOr_more, e_evO_no, e_evO_yes, e_evI_seq, e_evI_rng1, e_evI_rng2, e_evI_enm, e_evI_zp, e_xS_asg, e_xS_set, e_xS_par, e_xS_par3, e_xS_exp, e_xS_app, e_xS_ext, e_xS_setIx, e_xS_ret, e_xS_ife, e_xS_pas, e_xS_brk, e_xS_cnt, e_xS_nev, e_xsl_nil, e_xsl_cons, q_bind, q_toS, q_seq1, q_seq2, q_seq3, q_seq4, q_end1, q_end2, q_tst, q_pick, q_ret1, q_ret2, q_ret3, q_dv1, q_dv2, q_es1, q_es2, q_ea0, q_ea1, q_ea2, q_ea3, q_ec1, line0, line1, line2, line3, line4, line5, line6, line7, line8, q_sk1, q_sk2, q_sk3, q_noX, q_hold1, q_hold2, q_frz1, id, q_goS, q_sv1, q_sv2, q_sv3, q_ub1, q_ub2, q_pv, parS, parS3, Nat.reduceLT, Nat.reduceLeDiff, q_andK, q_orK, q_chnK, q_ite1, q_ite2, q_ite3, q_ite4, q_ite5, decide_eq_true_eq, Bool.not_eq_true', decide_eq_false_iff_not, q_add, q_sub, q_lt, q_le, q_gt, q_ge, q_eqI, q_neI, q_len1, q_len2, q_int1, q_int2, q_min, q_max, q_tup1, q_tup2, q_lst1, q_lst2, q_subL, q_subT, q_slL, q_slT, argE, List.getElem?_cons_zero, List.getElem?_cons_succ, List.getElem?_nil, List.map_cons, List.map_nil, List.replicate, List.nil_append, List.cons_append, List.append_nil, Option.map_some, Option.map_none, if_true, if_false, reduceIte, List.length_cons, List.length_nil, Nat.reduceAdd, Nat.reduceSub, List.mapM_cons, List.mapM_nil, Option.bind_eq_bind, Option.bind_some, Option.pure_def, atI_lit, List.set_cons_zero, List.set_cons_succ, q_as1, q_as2, q_as3, q_as4, q_as5, q_wp0, q_wp1, q_kp0, q_kp1, q_ed0, q_ed1, Bool.false_eq_true, Bool.not_true, Bool.not_false, q0', hdv3, hf, hisn, decide_true]
      · have q0' : ¬ ((q : Nat) : Int) = 0 := by omega
        obtain ⟨j, s'', hj, hc⟩ := hp (q + 2) s' (by omega) (by omega)
        rw [show ((q + 2 : Nat) : Int) = (q : Nat) + 2 by omega] at hc
        by_cases j0 : 0 < j
        · refine ⟨b, s'', fun h => h, ?_⟩
          have j0' : (0 : Int) < (j : Nat) := by omega
          simp only [e_ev_var, e_ev_cI, e_ev_cS, e_ev_cN, e_ev_cB, e_ev_neg, e_ev_tup, e_ev_lst, e_ev_bin, e_ev_cmp, e_ev_chn, e_ev_and, e_ev_or, e_ev_not, e_ev_ite, e_ev_sub, e_ev_slc, e_ev_rev, e_ev_call, e_ev_bi, e_ev_isi, e_ev_index, e_ev_pop, e_ev_popAt, e_evs_nil, e_evs_cons, e_evAnd_one, e_evAnd_more, e_evOr_one, e_evOr_more, e_evO_no, e_evO_yes, e_evI_seq, e_evI_rng1, e_evI_rng2, e_evI_enm, e_evI_zp, e_xS_asg, e_xS_set, e_xS_par, e_xS_par3, e_xS_exp, e_xS_app, e_xS_ext, e_xS_setIx, e_xS_ret, e_xS_ife, e_xS_pas, e_xS_brk, e_xS_cnt, e_xS_nev, e_xsl_nil, e_xsl_cons, q_bind, q_toS, q_seq1, q_seq2, q_seq3, q_seq4, q_end1, q_end2, q_tst, q_pick, q_ret1, q_ret2, q_ret3, q_dv1, q_dv2, q_es1, q_es2, q_ea0, q_ea1, q_ea2, q_ea3, q_ec1, line0, line1, line2, line3, line4, line5, line6, line7, line8, q_sk1, q_sk2, q_sk3, q_noX, q_hold1, q_hold2, q_frz1, id, q_goS, q_sv1, q_sv2, q_sv3, q_ub1, q_ub2, q_pv, parS, parS3, Nat.reduceLT, Nat.reduceLeDiff, q_andK, q_orK, q_chnK, q_ite1, q_ite2, q_ite3, q_ite4, q_ite5, decide_eq_true_eq, Bool.not_eq_true', decide_eq_false_iff_not, q_add, q_sub, q_lt, q_le, q_gt, q_ge, q_eqI, q_neI, q_len1, q_len2, q_int1, q_int2, q_min, q_max, q_tup1, q_tup2, q_lst1, q_lst2, q_subL, q_subT, q_slL, q_slT, argE, List.getElem?_cons_zero, List.getElem?_cons_succ, List.getElem?_nil, List.map_cons, List.map_nil, List.replicate, List.nil_append, List.cons_append, List.append_nil, Option.map_some, Option.map_none, if_true, if_false, reduceIte, List.length_cons, List.length_nil, Nat.reduceAdd, Nat.reduceSub, List.mapM_cons, List.mapM_nil, Option.bind_eq_bind, Option.bind_some, Option.pure_def, atI_lit, List.set_cons_zero, List.set_cons_succ, q_as1, q_as2, q_as3, q_as4, q_as5, q_wp0, q_wp1, q_kp0, q_kp1, q_ed0, q_ed1, Bool.false_eq_true, Bool.not_true, Bool.not_false, q0', hdv3, hf, hisn, hc, j0', decide_true, decide_false]
        · refine ⟨false, s'', fun h => (nomatch h), ?_⟩
          have j0' : ¬ (0 : Int) < (j : Nat) := by omega
          simp only [e_ev_var, e_ev_cI, e_ev_cS, e_ev_cN, e_ev_cB, e_ev_neg, e_ev_tup, e_ev_lst, e_ev_bin, e_ev_cmp, e_ev_chn, e_ev_and, e_ev_or, e_ev_not, e_ev_ite, e_ev_sub, e_ev_slc, e_ev_rev, e_ev_call, e_ev_bi, e_ev_isi, e_ev_index, e_ev_pop, e_ev_popAt, e_evs_nil, e_evs_cons, e_evAnd_one, e_evAnd_more, e_evOr_one, e_evOr_more, e_evO_no, e_evO_yes, e_evI_seq, e_evI_rng1, e_evI_rng2, e_evI_enm, e_evI_zp, e_xS_asg, e_xS_set, e_xS_par, e_xS_par3, e_xS_exp, e_xS_app, e_xS_ext, e_xS_setIx, e_xS_ret, e_xS_ife, e_xS_pas, e_xS_brk, e_xS_cnt, e_xS_nev, e_xsl_nil, e_xsl_cons, q_bind, q_toS, q_seq1, q_seq2, q_seq3, q_seq4, q_end1, q_end2, q_tst, q_pick, q_ret1, q_ret2, q_ret3, q_dv1, q_dv2, q_es1, q_es2, q_ea0, q_ea1, q_ea2, q_ea3, q_ec1, line0, line1, line2, line3, line4, line5, line6, line7, line8, q_sk1, q_sk2, q_sk3, q_noX, q_hold1, q_hold2, q_frz1, id, q_goS, q_sv1, q_sv2, q_sv3, q_ub1, q_ub2, q_pv, parS, parS3, Nat.reduceLT, Nat.reduceLeDiff, q_andK, q_orK, q_chnK, q_ite1, q_ite2, q_ite3, q_ite4, q_ite5, decide_eq_true_eq, Bool.not_eq_true', decide_eq_false_iff_not, q_add, q_sub, q_lt, q_le, q_gt, q_ge, q_eqI, q_neI, q_len1, q_len2, q_int1, q_int2, q_min, q_max, q_tup1, q_tup2, q_lst1, q_lst2, q_subL, q_subT, q_slL, q_slT, argE, List.getElem?_cons_zero, List.getElem?_cons_succ, List.getElem?_nil, List.map_cons, List.map_nil, List.replicate, List.nil_append, List.cons_append, List.append_nil, Option.map_some, Option.map_none, if_true, if_false, reduceIte, List.length_cons, List.length_nil, Nat.reduceAdd, Nat.reduceSub, List.mapM_cons, List.mapM_nil, Option.bind_eq_bind, Option.bind_some, Option.pure_def, atI_lit, List.set_cons_zero, List.set_cons_succ, q_as1, q_as2, q_as3, q_as4, q_as5, q_wp0, q_wp1, q_kp0, q_kp1, q_ed0, q_ed1, Bool.false_eq_true, Bool.not_true, Bool.not_false, q0', hdv3, hf, hisn, hc, j0', decide_true, decide_false]
    obtain ⟨b', s'', hbb, htest⟩ := htest
    rw [e_ev_and] at htest
    cases b' with
    | false =>
      refine ⟨[some .src, some (.fz (.int (n : Nat))), x2, some (.lst (ps.map pt)), x4, x5, x6, some (.lst (ties.map tieD)), x8, some (.fz (.int (q : Nat))), some (.fz (tieD t)), some (.fz (webD n (sortT (ties ++ [t])))), none], some s'', .inl ?_, ties, s'', _, _, rfl, rfl, cl, hb, by omega⟩
      rw [e_xsl_cons, e_xS_set, hlate]
      simp only [q_toS, q_sv1, List.length_cons, List.length_nil, Nat.reduceAdd, Nat.reduceLT, if_true, List.set_cons_succ, List.set_cons_zero, q_goS, q_seq1, e_xsl_cons, e_xS_ife, e_ev_and, htest, q_tst, Bool.false_eq_true, if_false, e_xsl_nil]
    | true =>
      refine ⟨[some .src, some (.fz (.int (n : Nat))), x2, some (.lst (ps.map pt)), x4, x5, x6, some (.lst ((ties ++ [t]).map tieD)), x8, some (.fz (.int (q : Nat))), some (.fz (tieD t)), some (.fz (webD n (sortT (ties ++ [t])))), none], some s'', .inl ?_, ties ++ [t], s'', _, _, rfl, rfl, hclr (hbb rfl), hts, by simp; omega⟩
      rw [e_xsl_cons, e_xS_set, hlate]
      have hset : xsl fn (.cons (.set 7 (.bin .add (.var 7) (.lst (.cons (.var 10) .nil)))) .nil) [some .src, some (.fz (.int (n : Nat))), x2, some (.lst (ps.map pt)), x4, x5, x6, some (.lst (ties.map tieD)), x8, some (.fz (.int (q : Nat))), some (.fz (tieD t)), some (.fz (webD n (sortT (ties ++ [t])))), none] (some s'') = .nx [some .src, some (.fz (.int (n : Nat))), x2, some (.lst (ps.map pt)), x4, x5, x6, some (.lst ((ties ++ [t]).map tieD)), x8, some (.fz (.int (q : Nat))), some (.fz (tieD t)), some (.fz (webD n (sortT (ties ++ [t])))), none] (some s'') := by
        simp only [e_ev_var, e_ev_cI, e_ev_cS, e_ev_cN, e_ev_cB, e_ev_neg, e_ev_tup, e_ev_lst, e_ev_bin, e_ev_cmp, e_ev_chn, e_ev_and, e_ev_or, e_ev_not, e_ev_ite, e_ev_sub, e_ev_slc, e_ev_rev, e_ev_call, e_ev_bi, e_ev_isi, e_ev_index, e_ev_pop, e_ev_popAt, e_evs_nil, e_evs_cons, e_evAnd_one, e_evAnd_more, e_evOr_one, e_evOr_more, e_evO_no, e_evO_yes, e_evI_seq, e_evI_rng1, e_evI_rng2, e_evI_enm, e_evI_zp, e_xS_asg, e_xS_set, e_xS_par, e_xS_par3, e_xS_exp, e_xS_app, e_xS_ext, e_xS_setIx, e_xS_ret, e_xS_ife, e_xS_pas, e_xS_brk, e_xS_cnt, e_xS_nev, e_xsl_nil, e_xsl_cons, q_bind, q_toS, q_seq1, q_seq2, q_seq3, q_seq4, q_end1, q_end2, q_tst, q_pick, q_ret1, q_ret2, q_ret3, q_dv1, q_dv2, q_es1, q_es2, q_ea0, q_ea1, q_ea2, q_ea3, q_ec1, line0, line1, line2, line3, line4, line5, line6, line7, line8, q_sk1, q_sk2, q_sk3, q_noX, q_hold1, q_hold2, q_frz1, id, q_goS, q_sv1, q_sv2, q_sv3, q_ub1, q_ub2, q_pv, parS, parS3, Nat.reduceLT, Nat.reduceLeDiff, q_andK, q_orK, q_chnK, q_ite1, q_ite2, q_ite3, q_ite4, q_ite5, decide_eq_true_eq, Bool.not_eq_true', decide_eq_false_iff_not, q_add, q_sub, q_lt, q_le, q_gt, q_ge, q_eqI, q_neI, q_len1, q_len2, q_int1, q_int2, q_min, q_max, q_tup1, q_tup2, q_lst1, q_lst2, q_subL, q_subT, q_slL, q_slT, argE, List.getElem?_cons_zero, List.getElem?_cons_succ, List.getElem?_nil, List.map_cons, List.map_nil, List.replicate, List.nil_append, List.cons_append, List.append_nil, Option.map_some, Option.map_none, if_true, if_false, reduceIte, List.length_cons, List.length_nil, Nat.reduceAdd, Nat.reduceSub, List.mapM_cons, List.mapM_nil, Option.bind_eq_bind, Option.bind_some, Option.pure_def, atI_lit, List.set_cons_zero, List.set_cons_succ, q_as1, q_as2, q_as3, q_as4, q_as5, q_wp0, q_wp1, q_kp0, q_kp1, q_ed0, q_ed1, Bool.false_eq_true, Bool.not_true, Bool.not_false, hdv7, hcat]
      simp only [q_toS, q_sv1, List.length_cons, List.length_nil, Nat.reduceAdd, Nat.reduceLT, if_true, List.set_cons_succ, List.set_cons_zero, q_goS, q_seq1, e_xsl_cons, e_xS_ife, e_ev_and, htest, q_tst, e_xsl_nil]
      rw [e_xsl_cons] at hset
      rw [hset, q_seq1, e_xsl_nil]
end K37

set_option Elab.async false
set_option linter.all false
set_option maxRecDepth 100000
set_option maxHeartbeats 8000000
set_option exponentiation.threshold 1000
set_option autoImplicit false
namespace K37
open PySem PySem.Spec L2 DL
structure Clear (n : Nat) (ts : List Tie) (ps : List Pt) : Prop where
  pok : PsOk n ps
  tie : ∀ t, t ∈ ts → t.1 < n ∧ t.2 < n
  few : ts.length ≤ 64
  clr : Fault n ts ps .none
theorem m_draw (k : Nat) (s : Src) {n most : Nat} (hn : 1 ≤ n ∧ n ≤ 8) (hm : 1 ≤ most ∧ most ≤ 1000) :
    ∃ (n' : Nat) (ts : List Tie) (ps : List Pt) (s' : Src), fnAt tab (k + 6) 15 [.src, .fz (.int (n : Nat)), .fz (.int (most : Nat))] (some s) = .ok (.fz (.tuple [webD n' ts, plD ps])) (some s') ∧ Clear n' ts ps := by
  rw [fnAt_txt t__law_draw_clear (by decide) (k + 5) _ _ rfl]
  have hp : Picks (fnAt tab (k + 5)) := m_pick (k + 4)
  have hF : Looks (fnAt tab (k + 5)) := m_looks k
  have hA : ∀ (s : Src) (ds : List PyData), ds.length ≤ 1000000 → ∃ out s', fnAt tab (k + 5) 9 [.src, .fz (.list ds)] (some s) = .ok (.lst out) (some s') ∧ out.Perm ds := fun s ds h => m_any_order (k + 3) s ds h
  generalize fnAt tab (k + 5) = fn at *
  have ha : argE 13 [.src, .fz (.int (n : Nat)), .fz (.int (most : Nat))] = [some .src, some (.fz (.int (n : Nat))), some (.fz (.int (most : Nat))), none, none, none, none, none, none, none, none, none, none] := rfl
  have H0 : xS fn (.set 3 (.lst .nil)) [some .src, some (.fz (.int (n : Nat))), some (.fz (.int (most : Nat))), none, none, none, none, none, none, none, none, none, none] (some s)
    = .nx [some .src, some (.fz (.int (n : Nat))), some (.fz (.int (most : Nat))), some (.lst []), none, none, none, none, none, none, none, none, none] (some s) := by simp only [e_ev_var, e_ev_cI, e_ev_cS, e_ev_cN, e_ev_cB, e_ev_neg, e_ev_tup, e_ev_lst, e_ev_bin, e_ev_cmp, e_ev_chn, e_ev_and, e_ev_or, e_ev_not, e_ev_ite, e_ev_sub, e_ev_slc, e_ev_rev, e_ev_call, e_ev_bi, e_ev_isi, e_ev_index, e_ev_pop, e_ev_popAt, e_evs_nil, e_evs_cons, e_evAnd_one, e_evAnd_more, e_evOr_one, e_evOr_more, e_evO_no, e_evO_yes, e_evI_seq, e_evI_rng1, e_evI_rng2, e_evI_enm, e_evI_zp, e_xS_asg, e_xS_set, e_xS_par, e_xS_par3, e_xS_exp, e_xS_app, e_xS_ext, e_xS_setIx, e_xS_ret, e_xS_ife, e_xS_pas, e_xS_brk, e_xS_cnt, e_xS_nev, e_xsl_nil, e_xsl_cons, q_bind, q_toS, q_seq1, q_seq2, q_seq3, q_seq4, q_end1, q_end2, q_tst, q_pick, q_ret1, q_ret2, q_ret3, q_dv1, q_dv2, q_es1, q_es2, q_ea0, q_ea1, q_ea2, q_ea3, q_ec1, line0, line1, line2, line3, line4, line5, line6, line7, line8, q_sk1, q_sk2, q_sk3, q_noX, q_hold1, q_hold2, q_frz1, id, q_goS, q_sv1, q_sv2, q_sv3, q_ub1, q_ub2, q_pv, parS, parS3, Nat.reduceLT, Nat.reduceLeDiff, q_andK, q_orK, q_chnK, q_ite1, q_ite2, q_ite3, q_ite4, q_ite5, decide_eq_true_eq, Bool.not_eq_true', decide_eq_false_iff_not, q_add, q_sub, q_lt, q_le, q_gt, q_ge, q_eqI, q_neI, q_len1, q_len2, q_int1, q_int2, q_min, q_max, q_tup1, q_tup2, q_lst1, q_lst2, q_subL, q_subT, q_slL, q_slT, argE, List.getElem?_cons_zero, List.getElem?_cons_succ, List.getElem?_nil, List.map_cons, List.map_nil, List.replicate, List.nil_append, List.cons_append, List.append_nil, Option.map_some, Option.map_none, if_true, if_false, reduceIte, List.length_cons, List.length_nil, Nat.reduceAdd, Nat.reduceSub, List.mapM_cons, List.mapM_nil, Option.bind_eq_bind, Option.bind_some, Option.pure_def, atI_lit, List.set_cons_zero, List.set_cons_succ, q_as1, q_as2, q_as3, q_as4, q_as5, q_wp0, q_wp1, q_kp0, q_kp1, q_ed0, q_ed1, Bool.false_eq_true, Bool.not_true, Bool.not_false]
  obtain ⟨ps, s1, x4, x5, H1, dr, hlen⟩ := draw_loop1 hp hn hm s
  have hdv : dval [some .src, some (.fz (.int (n : Nat))), some (.fz (.int (most : Nat))), some (.lst (ps.map pt)), x4, x5, none, none, none, none, none, none, none] (.bor 3) = some (.list (ps.map pt)) := rfl
  have H2 : xS fn (.par3 1 6 7 (.bi .len (.cons (.var 3) .nil)) (.lst .nil) (.lst .nil)) [some .src, some (.fz (.int (n : Nat))), some (.fz (.int (most : Nat))), some (.lst (ps.map pt)), x4, x5, none, none, none, none, none, none, none] (some s1)
    = .nx [some .src, some (.fz (.int (ps.length : Nat))), some (.fz (.int (most : Nat))), some (.lst (ps.map pt)), x4, x5, some (.lst []), some (.lst []), none, none, none, none, none] (some s1) := by
    simp only [e_ev_var, e_ev_cI, e_ev_cS, e_ev_cN, e_ev_cB, e_ev_neg, e_ev_tup, e_ev_lst, e_ev_bin, e_ev_cmp, e_ev_chn, e_ev_and, e_ev_or, e_ev_not, e_ev_ite, e_ev_sub, e_ev_slc, e_ev_rev, e_ev_call, e_ev_bi, e_ev_isi, e_ev_index, e_ev_pop, e_ev_popAt, e_evs_nil, e_evs_cons, e_evAnd_one, e_evAnd_more, e_evOr_one, e_evOr_more, e_evO_no, e_evO_yes, e_evI_seq, e_evI_rng1, e_evI_rng2, e_evI_enm, e_evI_zp, e_xS_asg, e_xS_set, e_xS_par, e_xS_par3, e_xS_exp, e_xS_app, e_xS_ext, e_xS_setIx, e_xS_ret, e_xS_ife, e_xS_pas, e_xS_brk, e_xS_cnt, e_xS_nev, e_xsl_nil, e_xsl_cons, q_bind, q_toS, q_seq1, q_seq2, q_seq3, q_seq4, q_end1, q_end2, q_tst, q_pick, q_ret1, q_ret2, q_ret3, q_dv1, q_dv2, q_es1, q_es2, q_ea0, q_ea1, q_ea2, q_ea3, q_ec1, line0, line1, line2, line3, line4, line5, line6, line7, line8, q_sk1, q_sk2, q_sk3, q_noX, q_hold1, q_hold2, q_frz1, id, q_goS, q_sv1, q_sv2, q_sv3, q_ub1, q_ub2, q_pv, parS, parS3, Nat.reduceLT, Nat.reduceLeDiff, q_andK, q_orK, q_chnK, q_ite1, q_ite2, q_ite3, q_ite4, q_ite5, decide_eq_true_eq, Bool.not_eq_true', decide_eq_false_iff_not, q_add, q_sub, q_lt, q_le, q_gt, q_ge, q_eqI, q_neI, q_len1, q_len2, q_int1, q_int2, q_min, q_max, q_tup1, q_tup2, q_lst1, q_lst2, q_subL, q_subT, q_slL, q_slT, argE, List.getElem?_cons_zero, List.getElem?_cons_succ, List.getElem?_nil, List.map_cons, List.map_nil, List.replicate, List.nil_append, List.cons_append, List.append_nil, Option.map_some, Option.map_none, if_true, if_false, reduceIte, List.length_cons, List.length_nil, Nat.reduceAdd, Nat.reduceSub, List.mapM_cons, List.mapM_nil, Option.bind_eq_bind, Option.bind_some, Option.pure_def, atI_lit, List.set_cons_zero, List.set_cons_succ, q_as1, q_as2, q_as3, q_as4, q_as5, q_wp0, q_wp1, q_kp0, q_kp1, q_ed0, q_ed1, Bool.false_eq_true, Bool.not_true, Bool.not_false, hdv, List.length_map]
  have po : PsOk ps.length ps := ⟨hlen, Nat.le_trans dr.few hn.2, rfl, dr.sm, dr.nod⟩
  obtain ⟨l, x8, H3, hl, hb⟩ := draw_loop2 (fn := fn) (n := ps.length) po.n8 (some s1) (some (.fz (.int (most : Nat)))) (some (.lst (ps.map pt))) x4 x5 (some (.lst []))
  obtain ⟨q, s2, hq, hc⟩ := hp 4 s1 (by omega) (by omega)
  have hc' : fn 8 [.src, .fz (.int 4)] (some s1) = .ok (.fz (.int (q : Nat))) (some s2) := hc
  have H4 : xS fn (.set 9 (.call 8 (.cons (.var 0) (.cons (.cI 4) .nil)))) [some .src, some (.fz (.int (ps.length : Nat))), some (.fz (.int (most : Nat))), some (.lst (ps.map pt)), x4, x5, some (.lst (l.map tieD)), some (.lst []), x8, none, none, none, none] (some s1)
    = .nx [some .src, some (.fz (.int (ps.length : Nat))), some (.fz (.int (most : Nat))), some (.lst (ps.map pt)), x4, x5, some (.lst (l.map tieD)), some (.lst []), x8, some (.fz (.int (q : Nat))), none, none, none] (some s2) := by
    simp only [e_ev_var, e_ev_cI, e_ev_cS, e_ev_cN, e_ev_cB, e_ev_neg, e_ev_tup, e_ev_lst, e_ev_bin, e_ev_cmp, e_ev_chn, e_ev_and, e_ev_or, e_ev_not, e_ev_ite, e_ev_sub, e_ev_slc, e_ev_rev, e_ev_call, e_ev_bi, e_ev_isi, e_ev_index, e_ev_pop, e_ev_popAt, e_evs_nil, e_evs_cons, e_evAnd_one, e_evAnd_more, e_evOr_one, e_evOr_more, e_evO_no, e_evO_yes, e_evI_seq, e_evI_rng1, e_evI_rng2, e_evI_enm, e_evI_zp, e_xS_asg, e_xS_set, e_xS_par, e_xS_par3, e_xS_exp, e_xS_app, e_xS_ext, e_xS_setIx, e_xS_ret, e_xS_ife, e_xS_pas, e_xS_brk, e_xS_cnt, e_xS_nev, e_xsl_nil, e_xsl_cons, q_bind, q_toS, q_seq1, q_seq2, q_seq3, q_seq4, q_end1, q_end2, q_tst, q_pick, q_ret1, q_ret2, q_ret3, q_dv1, q_dv2, q_es1, q_es2, q_ea0, q_ea1, q_ea2, q_ea3, q_ec1, line0, line1, line2, line3, line4, line5, line6, line7, line8, q_sk1, q_sk2, q_sk3, q_noX, q_hold1, q_hold2, q_frz1, id, q_goS, q_sv1, q_sv2, q_sv3, q_ub1, q_ub2, q_pv, parS, parS3, Nat.reduceLT, Nat.reduceLeDiff, q_andK, q_orK, q_chnK, q_ite1, q_ite2, q_ite3, q_ite4, q_ite5, decide_eq_true_eq, Bool.not_eq_true', decide_eq_false_iff_not, q_add, q_sub, q_lt, q_le, q_gt, q_ge, q_eqI, q_neI, q_len1, q_len2, q_int1, q_int2, q_min, q_max, q_tup1, q_tup2, q_lst1, q_lst2, q_subL, q_subT, q_slL, q_slT, argE, List.getElem?_cons_zero, List.getElem?_cons_succ, List.getElem?_nil, List.map_cons, List.map_nil, List.replicate, List.nil_append, List.cons_append, List.append_nil, Option.map_some, Option.map_none, if_true, if_false, reduceIte, List.length_cons, List.length_nil, Nat.reduceAdd, Nat.reduceSub, List.mapM_cons, List.mapM_nil, Option.bind_eq_bind, Option.bind_some, Option.pure_def, atI_lit, List.set_cons_zero, List.set_cons_succ, q_as1, q_as2, q_as3, q_as4, q_as5, q_wp0, q_wp1, q_kp0, q_kp1, q_ed0, q_ed1, Bool.false_eq_true, Bool.not_true, Bool.not_false, hc']
  have hl64 : l.length ≤ 64 := by have := po.n8; omega
  obtain ⟨out, s3, hA, hperm⟩ := hA s2 (l.map tieD) (by simp; omega)
  have hI : evI fn (.seq (.call 9 (.cons (.var 0) (.cons (.var 6) .nil)))) [some .src, some (.fz (.int (ps.length : Nat))), some (.fz (.int (most : Nat))), some (.lst (ps.map pt)), x4, x5, some (.lst (l.map tieD)), some (.lst []), x8, some (.fz (.int (q : Nat))), none, none, none] (some s2)
    = .ok ⟨out, none, []⟩ [some .src, some (.fz (.int (ps.length : Nat))), some (.fz (.int (most : Nat))), some (.lst (ps.map pt)), x4, x5, some (.fz (.list (l.map tieD))), some (.lst []), x8, some (.fz (.int (q : Nat))), none, none, none] (some s3) := by
    have h4 := q_ea4 (env := [some .src, some (.fz (.int (ps.length : Nat))), some (.fz (.int (most : Nat))), some (.lst (ps.map pt)), x4, x5, some (.lst (l.map tieD)), some (.lst []), x8, some (.fz (.int (q : Nat))), none, none, none]) (n := 6) (ds := l.map tieD) rfl []
    simp only [e_ev_var, e_ev_cI, e_ev_cS, e_ev_cN, e_ev_cB, e_ev_neg, e_ev_tup, e_ev_lst, e_ev_bin, e_ev_cmp, e_ev_chn, e_ev_and, e_ev_or, e_ev_not, e_ev_ite, e_ev_sub, e_ev_slc, e_ev_rev, e_ev_call, e_ev_bi, e_ev_isi, e_ev_index, e_ev_pop, e_ev_popAt, e_evs_nil, e_evs_cons, e_evAnd_one, e_evAnd_more, e_evOr_one, e_evOr_more, e_evO_no, e_evO_yes, e_evI_seq, e_evI_rng1, e_evI_rng2, e_evI_enm, e_evI_zp, e_xS_asg, e_xS_set, e_xS_par, e_xS_par3, e_xS_exp, e_xS_app, e_xS_ext, e_xS_setIx, e_xS_ret, e_xS_ife, e_xS_pas, e_xS_brk, e_xS_cnt, e_xS_nev, e_xsl_nil, e_xsl_cons, q_bind, q_toS, q_seq1, q_seq2, q_seq3, q_seq4, q_end1, q_end2, q_tst, q_pick, q_ret1, q_ret2, q_ret3, q_dv1, q_dv2, q_es1, q_es2, q_ea0, q_ea1, q_ea2, q_ea3, q_ec1, line0, line1, line2, line3, line4, line5, line6, line7, line8, q_sk1, q_sk2, q_sk3, q_noX, q_hold1, q_hold2, q_frz1, id, q_goS, q_sv1, q_sv2, q_sv3, q_ub1, q_ub2, q_pv, parS, parS3, Nat.reduceLT, Nat.reduceLeDiff, q_andK, q_orK, q_chnK, q_ite1, q_ite2, q_ite3, q_ite4, q_ite5, decide_eq_true_eq, Bool.not_eq_true', decide_eq_false_iff_not, q_add, q_sub, q_lt, q_le, q_gt, q_ge, q_eqI, q_neI, q_len1, q_len2, q_int1, q_int2, q_min, q_max, q_tup1, q_tup2, q_lst1, q_lst2, q_subL, q_subT, q_slL, q_slT, argE, List.getElem?_cons_zero, List.getElem?_cons_succ, List.getElem?_nil, List.map_cons, List.map_nil, List.replicate, List.nil_append, List.cons_append, List.append_nil, Option.map_some, Option.map_none, if_true, if_false, reduceIte, List.length_cons, List.length_nil, Nat.reduceAdd, Nat.reduceSub, List.mapM_cons, List.mapM_nil, Option.bind_eq_bind, Option.bind_some, Option.pure_def, atI_lit, List.set_cons_zero, List.set_cons_succ, q_as1, q_as2, q_as3, q_as4, q_as5, q_wp0, q_wp1, q_kp0, q_kp1, q_ed0, q_ed1, Bool.false_eq_true, Bool.not_true, Bool.not_false, h4, hA]
  have hout : ∀ d, d ∈ out → ∃ t : Tie, d = tieD t ∧ t.1 < ps.length ∧ t.2 < ps.length := by
    intro d hd
    have := hperm.mem_iff.mp hd
    rw [List.mem_map] at this
    obtain ⟨t, ht, rfl⟩ := this
    exact ⟨t, rfl, hb t ht⟩
  obtain ⟨ties, s4, x10, x11, H5, hfn, htb, htl⟩ := draw_loop3 hp hF po hq s3 (some (.fz (.int (most : Nat)))) x4 x5 (some (.fz (.list (l.map tieD)))) x8 out hout (by rw [hperm.length_eq]; simpa using hl64)
  refine ⟨ps.length, sortT ties, ps, s4, ?_, po, fun t ht => htb t ((sortT_perm _).mem_iff.mp ht), by rw [(sortT_perm _).length_eq]; exact htl, hfn⟩
  have H5' := xS_forN hI H5
  rw [ha, b__law_draw_clear, xsl_nx H0, xsl_nx H1, xsl_nx H2, xsl_nx H3, xsl_nx H4, xsl_nx H5']
  have d3 : dval [some .src, some (.fz (.int (ps.length : Nat))), some (.fz (.int (most : Nat))), some (.lst (ps.map pt)), x4, x5, some (.fz (.list (l.map tieD))), some (.lst (ties.map tieD)), x8, some (.fz (.int (q : Nat))), x10, x11, none] (.bor 3) = some (.list (ps.map pt)) := rfl
  have d7 : dval [some .src, some (.fz (.int (ps.length : Nat))), some (.fz (.int (most : Nat))), some (.lst (ps.map pt)), x4, x5, some (.fz (.list (l.map tieD))), some (.lst (ties.map tieD)), x8, some (.fz (.int (q : Nat))), x10, x11, none] (.bor 7) = some (.list (ties.map tieD)) := rfl
  have hs := bi_sortL ties (by omega)
  simp only [e_ev_var, e_ev_cI, e_ev_cS, e_ev_cN, e_ev_cB, e_ev_neg, e_ev_tup, e_ev_lst, e_ev_bin, e_ev_cmp, e_ev_chn, e_ev_and, e_ev_or, e_ev_not, e_ev_ite, e_ev_sub, e_ev_slc, e_ev_rev, e_ev_call, e_ev_bi, e_ev_isi, e_ev_index, e_ev_pop, e_ev_popAt, e_evs_nil, e_evs_cons, e_evAnd_one, e_evAnd_more, e_evOr_one, e_evOr_more, e_evO_no, e_evO_yes, e_evI_seq, e_evI_rng1, e_evI_rng2, e_evI_enm, e_evI_zp, e_xS_asg, e_xS_set, e_xS_par, e_xS_par3, e_xS_exp, e_xS_app, e_xS_ext, e_xS_setIx, e_xS_ret, e_xS_ife, e_xS_pas, e_xS_brk, e_xS_cnt, e_xS_nev, e_xsl_nil, e_xsl_cons, q_bind, q_toS, q_seq1, q_seq2, q_seq3, q_seq4, q_end1, q_end2, q_tst, q_pick, q_ret1, q_ret2, q_ret3, q_dv1, q_dv2, q_es1, q_es2, q_ea0, q_ea1, q_ea2, q_ea3, q_ec1, line0, line1, line2, line3, line4, line5, line6, line7, line8, q_sk1, q_sk2, q_sk3, q_noX, q_hold1, q_hold2, q_frz1, id, q_goS, q_sv1, q_sv2, q_sv3, q_ub1, q_ub2, q_pv, parS, parS3, Nat.reduceLT, Nat.reduceLeDiff, q_andK, q_orK, q_chnK, q_ite1, q_ite2, q_ite3, q_ite4, q_ite5, decide_eq_true_eq, Bool.not_eq_true', decide_eq_false_iff_not, q_add, q_sub, q_lt, q_le, q_gt, q_ge, q_eqI, q_neI, q_len1, q_len2, q_int1, q_int2, q_min, q_max, q_tup1, q_tup2, q_lst1, q_lst2, q_subL, q_subT, q_slL, q_slT, argE, List.getElem?_cons_zero, List.getElem?_cons_succ, List.getElem?_nil, List.map_cons, List.map_nil, List.replicate, List.nil_append, List.cons_append, List.append_nil, Option.map_some, Option.map_none, if_true, if_false, reduceIte, List.length_cons, List.length_nil, Nat.reduceAdd, Nat.reduceSub, List.mapM_cons, List.mapM_nil, Option.bind_eq_bind, Option.bind_some, Option.pure_def, atI_lit, List.set_cons_zero, List.set_cons_succ, q_as1, q_as2, q_as3, q_as4, q_as5, q_wp0, q_wp1, q_kp0, q_kp1, q_ed0, q_ed1, Bool.false_eq_true, Bool.not_true, Bool.not_false, d3, d7, hs, webD, tiesD, plD]
end K37

set_option Elab.async false
set_option linter.all false
set_option maxRecDepth 100000
set_option maxHeartbeats 8000000
set_option exponentiation.threshold 1000
set_option autoImplicit false
namespace K37
open PySem PySem.Spec L2 DL
/-! ### both looks show the same -/
theorem reprOk_tm2 {k m : Nat} {d : PyData} (a : Tm k m d) (h : k ≤ 60) (h' : m ≤ 10000000) : reprOk d = true := by
  unfold reprOk
  rw [a.shw, PyData.hasDict_of_canLay d a.lay, decide_eq_true (Nat.le_trans a.dep h), decide_eq_true (Nat.le_trans a.len (Nat.le_trans h' (by decide)))]
  rfl
theorem tm_word (x : String) (h : (PyData.str x).shown.length ≤ 25) (h' : PyData.strOk (PyData.str x).shown = true) : Tm 1 100 (.str x) := (Tm.str h h').mono (by decide) (by decide)
theorem tm_same : Tm 1 100 (.str "same") := tm_word _ (by decide +kernel) (by decide +kernel)
theorem tm_on : Tm 1 100 (.str "on") := tm_word _ (by decide +kernel) (by decide +kernel)
theorem tm_cross : Tm 1 100 (.str "cross") := tm_word _ (by decide +kernel) (by decide +kernel)
theorem tm_natD {a : Nat} (h : a < 1000000) : Tm 1 100 (.int (a : Nat)) := (Tm.int (sm_nat h)).mono (by decide) (by decide)
theorem tm_fault {n : Nat} {ts : List Tie} {ps : List Pt} (o : Ok n ts ps) {d : PyData} (f : Fault n ts ps d) : Tm 2 1000 d := by
  have n9 := o.n9
  cases f with
  | same ha hb h =>
    refine (Tm.tuple (k := 1) (m := 100) (ds := [_, _, _]) ?_).mono (by decide) (by show 3 * 100 + 2 * 3 + 3 ≤ 1000; decide)
    intro d hd
    simp only [List.mem_cons, List.not_mem_nil, or_false] at hd
    rcases hd with rfl | rfl | rfl
    · exact tm_same
    · exact tm_natD (by omega)
    · exact tm_natD (by omega)
  | on ha ht h h' =>
    have := o.tie _ ht
    refine (Tm.tuple (k := 1) (m := 100) (ds := [_, _, _, _]) ?_).mono (by decide) (by show 4 * 100 + 2 * 4 + 3 ≤ 1000; decide)
    intro d hd
    simp only [List.mem_cons, List.not_mem_nil, or_false] at hd
    rcases hd with rfl | rfl | rfl | rfl
    · exact tm_on
    · exact tm_natD (by omega)
    · exact tm_natD (by omega)
    · exact tm_natD (by omega)
  | cross hs ht h h' h'' =>
    refine (Tm.tuple (k := 1) (m := 100) (ds := [_, _, _]) ?_).mono (by decide) (by show 3 * 100 + 2 * 3 + 3 ≤ 1000; decide)
    intro d hd
    simp only [List.mem_cons, List.not_mem_nil, or_false] at hd
    rcases hd with rfl | rfl | rfl
    · exact tm_cross
    · exact tm_tie (o.tie _ hs) n9
    · exact tm_tie (o.tie _ ht) n9
  | clear h h' h'' => exact Tm.none.mono (by decide) (by decide)
theorem tm_meets {n : Nat} {ts : List Tie} {ps : List Pt} (o : Ok n ts ps) : Tm 3 3000000 (.tuple (meetL ps ts)) := by
  have := meetL_len o
  exact (Tm.tuple (tm_meetL o)).mono (by decide) (by omega)
/-- what the law calls -/
structure Tools (fn : Fns) : Prop where
  pick : Picks fn
  look : Looks fn
  any : ∀ (s : Src) (ds : List PyData), ds.length ≤ 1000000 → ∃ out s', fn 9 [.src, .fz (.list ds)] (some s) = .ok (.lst out) (some s') ∧ out.Perm ds
  fault : ∀ (w : Wd) (n : Nat) (ts : List Tie) (ps : List Pt), Ok n ts ps → ∀ d, Fault n ts ps d → fn 7 [.fz (webD n ts), .fz (plD ps)] w = .ok (.fz d) w
  odd : ∀ (w : Wd) (n : Nat) (ts : List Tie), n ≤ 63 → ∀ d, Odd n d → fn 7 [.fz (webD n ts), .fz d] w = .ok (.fz formD) w
  meets : ∀ (w : Wd) (n : Nat) (ts : List Tie) (ps : List Pt), Ok n ts ps → fn 4 [.fz (webD n ts), .fz (plD ps)] w = .ok (.fz (.tuple (meetL ps ts))) w
  meetsL : ∀ (w : Wd) (n : Nat) (ts : List Tie) (ps : List Pt), Ok n ts ps → fn 13 [.fz (webD n ts), .fz (plD ps)] w = .ok (.lst (meetL ps ts)) w
  draw : ∀ (s : Src) (n most : Nat), 1 ≤ n ∧ n ≤ 8 → 1 ≤ most ∧ most ≤ 1000 → ∃ (n' : Nat) (ts : List Tie) (ps : List Pt) (s' : Src), fn 15 [.src, .fz (.int (n : Nat)), .fz (.int (most : Nat))] (some s) = .ok (.fz (.tuple [webD n' ts, plD ps])) (some s') ∧ Clear n' ts ps
theorem tools (k : Nat) : Tools (fnAt tab (k + 6)) where
  pick := m_pick (k + 5)
  look := m_looks (k + 1)
  any := fun s ds h => m_any_order (k + 4) s ds h
  fault := fun w _ _ _ o _ f => m_place_fault (k + 1) w o f
  odd := fun w _ _ h _ od => m_place_odd (k + 1) w h od
  meets := fun w _ _ _ o => m_meetings (k + 2) w o
  meetsL := fun w _ _ _ o => m_law_meetings (k + 2) w o
  draw := fun s _ _ hn hm => m_draw k s hn hm
/-- the three looks -/
def grp (n : Nat) (g : List Tie × List Pt) : PyData := .tuple [webD n g.1, plD g.2]
theorem looks_loop {fn : Fns} (T : Tools fn) {n : Nat} (gs : List (List Tie × List Pt)) (ho : ∀ g, g ∈ gs → Ok n g.1 g.2) (w : Wd) (x0 x2 x3 x4 x5 x6 x7 x8 x9 x10 x11 x12 x13 x14 x15 x16 x17 x18 : Option EV) (it : IE)
    (hI : evI fn it [x0, some .src, x2, x3, x4, x5, x6, x7, x8, x9, x10, x11, x12, x13, x14, x15, x16, x17, x18] w = .ok ⟨gs.map (grp n), none, []⟩ [x0, some .src, x2, x3, x4, x5, x6, x7, x8, x9, x10, x11, x12, x13, x14, x15, x16, x17, x18] w) :
    ∃ y14 y15 : Option EV, xS fn (.for_ (.tp (.cons (.nm 14) (.cons (.nm 15) .nil))) it (.cons (.ife (.cmp .ne (.bi .repr (.cons (.call 7 (.cons (.var 14) (.cons (.var 15) .nil))) .nil)) (.bi .repr (.cons (.call 14 (.cons (.var 14) (.cons (.var 15) .nil))) .nil))) (.cons (.ret (.cB false)) .nil) .nil) (.cons (.ife (.cmp .ne (.bi .repr (.cons (.call 4 (.cons (.var 14) (.cons (.var 15) .nil))) .nil)) (.bi .repr (.cons (.bi .tuple (.cons (.call 13 (.cons (.var 14) (.cons (.var 15) .nil))) .nil)) .nil))) (.cons (.ret (.cB false)) .nil) .nil) .nil))) [x0, some .src, x2, x3, x4, x5, x6, x7, x8, x9, x10, x11, x12, x13, x14, x15, x16, x17, x18] w = .nx [x0, some .src, x2, x3, x4, x5, x6, x7, x8, x9, x10, x11, x12, x13, y14, y15, x16, x17, x18] w := by
  have H := xS_findM (g := grp n) (fn := fn) (w := w) (tg := (.tp (.cons (.nm 14) (.cons (.nm 15) .nil)))) (it := it) (b := (.cons (.ife (.cmp .ne (.bi .repr (.cons (.call 7 (.cons (.var 14) (.cons (.var 15) .nil))) .nil)) (.bi .repr (.cons (.call 14 (.cons (.var 14) (.cons (.var 15) .nil))) .nil))) (.cons (.ret (.cB false)) .nil) .nil) (.cons (.ife (.cmp .ne (.bi .repr (.cons (.call 4 (.cons (.var 14) (.cons (.var 15) .nil))) .nil)) (.bi .repr (.cons (.bi .tuple (.cons (.call 13 (.cons (.var 14) (.cons (.var 15) .nil))) .nil)) .nil))) (.cons (.ret (.cB false)) .nil) .nil) .nil))) (env := [x0, some .src, x2, x3, x4, x5, x6, x7, x8, x9, x10, x11, x12, x13, x14, x15, x16, x17, x18]) (r := []) (e1 := [x0, some .src, x2, x3, x4, x5, x6, x7, x8, x9, x10, x11, x12, x13, x14, x15, x16, x17, x18]) (f := fun _ => none) (J := fun e => ∃ x14 x15 : Option EV, e = [x0, some .src, x2, x3, x4, x5, x6, x7, x8, x9, x10, x11, x12, x13, x14, x15, x16, x17, x18]) gs hI ⟨_, _, rfl⟩ ?_
  · rw [findNone] at H
    obtain ⟨e2, h1, y14, y15, rfl⟩ := H
    exact ⟨y14, y15, h1⟩
  · rintro g hg env ⟨x14, x15, rfl⟩
    have o := ho g hg
    obtain ⟨d, f⟩ := fault_is o
    have h7 := T.fault w _ _ _ o d f
    have h14 := T.look w _ _ _ o d f
    have h4 := T.meets w _ _ _ o
    have h13 := T.meetsL w _ _ _ o
    have r1 := q_repr (reprOk_tm2 (tm_fault o f) (by decide) (by decide))
    have r2 := q_repr (reprOk_tm2 (tm_meets o) (by decide) (by decide))
    have n1 := ne_shown (tm_fault o f)
    have n2 := ne_shown (tm_meets o)
    refine ⟨[x0, some .src, x2, x3, x4, x5, x6, x7, x8, x9, x10, x11, x12, x13, some (.fz (webD n g.1)), some (.fz (plD g.2)), x16, x17, x18], by simp only [grp, e_ev_var, e_ev_cI, e_ev_cS, e_ev_cN, e_ev_cB, e_ev_neg, e_ev_tup, e_ev_lst, e_ev_bin, e_ev_cmp, e_ev_chn, e_ev_and, e_ev_or, e_ev_not, e_ev_ite, e_ev_sub, e_ev_slc, e_ev_rev, e_ev_call, e_ev_bi, e_ev_isi, e_ev_index, e_ev_pop, e_ev_popAt, e_evs_nil, e_evs_cons, e_evAnd_one, e_evAnd_more, e_evOr_one, e_evOr_more, e_evO_no, e_evO_yes, e_evI_seq, e_evI_rng1, e_evI_rng2, e_evI_enm, e_evI_zp, e_xS_asg, e_xS_set, e_xS_par, e_xS_par3, e_xS_exp, e_xS_app, e_xS_ext, e_xS_setIx, e_xS_ret, e_xS_ife, e_xS_pas, e_xS_brk, e_xS_cnt, e_xS_nev, e_xsl_nil, e_xsl_cons, q_bind, q_toS, q_seq1, q_seq2, q_seq3, q_seq4, q_end1, q_end2, q_tst, q_pick, q_ret1, q_ret2, q_ret3, q_dv1, q_dv2, q_es1, q_es2, q_ea0, q_ea1, q_ea2, q_ea3, q_ec1, line0, line1, line2, line3, line4, line5, line6, line7, line8, q_sk1, q_sk2, q_sk3, q_noX, q_hold1, q_hold2, q_frz1, id, q_goS, q_sv1, q_sv2, q_sv3, q_ub1, q_ub2, q_pv, parS, parS3, Nat.reduceLT, Nat.reduceLeDiff, q_andK, q_orK, q_chnK, q_ite1, q_ite2, q_ite3, q_ite4, q_ite5, decide_eq_true_eq, Bool.not_eq_true', decide_eq_false_iff_not, q_add, q_sub, q_lt, q_le, q_gt, q_ge, q_eqI, q_neI, q_len1, q_len2, q_int1, q_int2, q_min, q_max, q_tup1, q_tup2, q_lst1, q_lst2, q_subL, q_subT, q_slL, q_slT, argE, List.getElem?_cons_zero, List.getElem?_cons_succ, List.getElem?_nil, List.map_cons, List.map_nil, List.replicate, List.nil_append, List.cons_append, List.append_nil, Option.map_some, Option.map_none, if_true, if_false, reduceIte, List.length_cons, List.length_nil, Nat.reduceAdd, Nat.reduceSub, List.mapM_cons, List.mapM_nil, Option.bind_eq_bind, Option.bind_some, Option.pure_def, atI_lit, List.set_cons_zero, List.set_cons_succ, q_as1, q_as2, q_as3, q_as4, q_as5, q_wp0, q_wp1, q_kp0, q_kp1, q_ed0, q_ed1, Bool.false_eq_true, Bool.not_true, Bool.not_false], [x0, some .src, x2, x3, x4, x5, x6, x7, x8, x9, x10, x11, x12, x13, some (.fz (webD n g.1)), some (.fz (plD g.2)), x16, x17, x18], ?_, _, _, rfl⟩
    simp only [e_ev_var, e_ev_cI, e_ev_cS, e_ev_cN, e_ev_cB, e_ev_neg, e_ev_tup, e_ev_lst, e_ev_bin, e_ev_cmp, e_ev_chn, e_ev_and, e_ev_or, e_ev_not, e_ev_ite, e_ev_sub, e_ev_slc, e_ev_rev, e_ev_call, e_ev_bi, e_ev_isi, e_ev_index, e_ev_pop, e_ev_popAt, e_evs_nil, e_evs_cons, e_evAnd_one, e_evAnd_more, e_evOr_one, e_evOr_more, e_evO_no, e_evO_yes, e_evI_seq, e_evI_rng1, e_evI_rng2, e_evI_enm, e_evI_zp, e_xS_asg, e_xS_set, e_xS_par, e_xS_par3, e_xS_exp, e_xS_app, e_xS_ext, e_xS_setIx, e_xS_ret, e_xS_ife, e_xS_pas, e_xS_brk, e_xS_cnt, e_xS_nev, e_xsl_nil, e_xsl_cons, q_bind, q_toS, q_seq1, q_seq2, q_seq3, q_seq4, q_end1, q_end2, q_tst, q_pick, q_ret1, q_ret2, q_ret3, q_dv1, q_dv2, q_es1, q_es2, q_ea0, q_ea1, q_ea2, q_ea3, q_ec1, line0, line1, line2, line3, line4, line5, line6, line7, line8, q_sk1, q_sk2, q_sk3, q_noX, q_hold1, q_hold2, q_frz1, id, q_goS, q_sv1, q_sv2, q_sv3, q_ub1, q_ub2, q_pv, parS, parS3, Nat.reduceLT, Nat.reduceLeDiff, q_andK, q_orK, q_chnK, q_ite1, q_ite2, q_ite3, q_ite4, q_ite5, decide_eq_true_eq, Bool.not_eq_true', decide_eq_false_iff_not, q_add, q_sub, q_lt, q_le, q_gt, q_ge, q_eqI, q_neI, q_len1, q_len2, q_int1, q_int2, q_min, q_max, q_tup1, q_tup2, q_lst1, q_lst2, q_subL, q_subT, q_slL, q_slT, argE, List.getElem?_cons_zero, List.getElem?_cons_succ, List.getElem?_nil, List.map_cons, List.map_nil, List.replicate, List.nil_append, List.cons_append, List.append_nil, Option.map_some, Option.map_none, if_true, if_false, reduceIte, List.length_cons, List.length_nil, Nat.reduceAdd, Nat.reduceSub, List.mapM_cons, List.mapM_nil, Option.bind_eq_bind, Option.bind_some, Option.pure_def, atI_lit, List.set_cons_zero, List.set_cons_succ, q_as1, q_as2, q_as3, q_as4, q_as5, q_wp0, q_wp1, q_kp0, q_kp1, q_ed0, q_ed1, Bool.false_eq_true, Bool.not_true, Bool.not_false, h7, h14, h4, h13, r1, r2, n1, n2]
end K37

set_option Elab.async false
set_option linter.all false
set_option maxRecDepth 100000
set_option maxHeartbeats 8000000
set_option exponentiation.threshold 1000
set_option autoImplicit false
namespace K37
open PySem PySem.Spec L2 DL
/-! ### the law's lap, step by step -/
section
variable {fn : Fns} (T : Tools fn) (x0 x2 x3 x4 x5 x6 x7 x8 x9 x10 x11 x12 x13 x14 x15 x16 x17 x18 : Option EV)
include T
theorem lap0 (s : Src) : ∃ (n most : Nat) (s' : Src), xS fn (.asg (.tp (.cons (.nm 3) (.cons (.nm 4) .nil))) (.tup (.cons (.bin .add (.cI 1) (.call 8 (.cons (.var 1) (.cons (.cI 8) .nil)))) (.cons (.sub (.lst (.cons (.cI 3) (.cons (.cI 4) (.cons (.cI 6) (.cons (.cI 9) (.cons (.cI 1000) .nil)))))) (.call 8 (.cons (.var 1) (.cons (.cI 5) .nil)))) .nil)))) [x0, some .src, x2, x3, x4, x5, x6, x7, x8, x9, x10, x11, x12, x13, x14, x15, x16, x17, x18] (some s) = .nx [x0, some .src, x2, some (.fz (.int (n : Nat))), some (.fz (.int (most : Nat))), x5, x6, x7, x8, x9, x10, x11, x12, x13, x14, x15, x16, x17, x18] (some s') ∧ (1 ≤ n ∧ n ≤ 8) ∧ 1 ≤ most ∧ most ≤ 1000 := by
  obtain ⟨j, s1, hj, c1⟩ := T.pick 8 s (by omega) (by omega)
  obtain ⟨i, s2, hi, c2⟩ := T.pick 5 s1 (by omega) (by omega)
  have c1' : fn 8 [.src, .fz (.int 8)] (some s) = .ok (.fz (.int (j : Nat))) (some s1) := c1
  have c2' : fn 8 [.src, .fz (.int 5)] (some s1) = .ok (.fz (.int (i : Nat))) (some s2) := c2
  have hm : ∃ most : Nat, ([.int 3, .int 4, .int 6, .int 9, .int 1000] : List PyData)[i]? = some (.int (most : Nat)) ∧ 1 ≤ most ∧ most ≤ 1000 := by
    match i, hi with
    | 0, _ => exact ⟨3, rfl, by decide, by decide⟩
    | 1, _ => exact ⟨4, rfl, by decide, by decide⟩
    | 2, _ => exact ⟨6, rfl, by decide, by decide⟩
    | 3, _ => exact ⟨9, rfl, by decide, by decide⟩
    | 4, _ => exact ⟨1000, rfl, by decide, by decide⟩
  obtain ⟨most, hm, hb⟩ := hm
  refine ⟨1 + j, most, s2, ?_, by omega, hb⟩
  rw [show ((1 + j : Nat) : Int) = 1 + (j : Int) by omega]
  simp only [e_ev_var, e_ev_cI, e_ev_cS, e_ev_cN, e_ev_cB, e_ev_neg, e_ev_tup, e_ev_lst, e_ev_bin, e_ev_cmp, e_ev_chn, e_ev_and, e_ev_or, e_ev_not, e_ev_ite, e_ev_sub, e_ev_slc, e_ev_rev, e_ev_call, e_ev_bi, e_ev_isi, e_ev_index, e_ev_pop, e_ev_popAt, e_evs_nil, e_evs_cons, e_evAnd_one, e_evAnd_more, e_evOr_one, e_evOr_more, e_evO_no, e_evO_yes, e_evI_seq, e_evI_rng1, e_evI_rng2, e_evI_enm, e_evI_zp, e_xS_asg, e_xS_set, e_xS_par, e_xS_par3, e_xS_exp, e_xS_app, e_xS_ext, e_xS_setIx, e_xS_ret, e_xS_ife, e_xS_pas, e_xS_brk, e_xS_cnt, e_xS_nev, e_xsl_nil, e_xsl_cons, q_bind, q_toS, q_seq1, q_seq2, q_seq3, q_seq4, q_end1, q_end2, q_tst, q_pick, q_ret1, q_ret2, q_ret3, q_dv1, q_dv2, q_es1, q_es2, q_ea0, q_ea1, q_ea2, q_ea3, q_ec1, line0, line1, line2, line3, line4, line5, line6, line7, line8, q_sk1, q_sk2, q_sk3, q_noX, q_hold1, q_hold2, q_frz1, id, q_goS, q_sv1, q_sv2, q_sv3, q_ub1, q_ub2, q_pv, parS, parS3, Nat.reduceLT, Nat.reduceLeDiff, q_andK, q_orK, q_chnK, q_ite1, q_ite2, q_ite3, q_ite4, q_ite5, decide_eq_true_eq, Bool.not_eq_true', decide_eq_false_iff_not, q_add, q_sub, q_lt, q_le, q_gt, q_ge, q_eqI, q_neI, q_len1, q_len2, q_int1, q_int2, q_min, q_max, q_tup1, q_tup2, q_lst1, q_lst2, q_subL, q_subT, q_slL, q_slT, argE, List.getElem?_cons_zero, List.getElem?_cons_succ, List.getElem?_nil, List.map_cons, List.map_nil, List.replicate, List.nil_append, List.cons_append, List.append_nil, Option.map_some, Option.map_none, if_true, if_false, reduceIte, List.length_cons, List.length_nil, Nat.reduceAdd, Nat.reduceSub, List.mapM_cons, List.mapM_nil, Option.bind_eq_bind, Option.bind_some, Option.pure_def, atI_lit, List.set_cons_zero, List.set_cons_succ, q_as1, q_as2, q_as3, q_as4, q_as5, q_wp0, q_wp1, q_kp0, q_kp1, q_ed0, q_ed1, Bool.false_eq_true, Bool.not_true, Bool.not_false, c1', c2', DL.atI_nat, hm]
theorem lap12 (s : Src) {n most : Nat} (hn : 1 ≤ n ∧ n ≤ 8) (hm : 1 ≤ most ∧ most ≤ 1000) : ∃ (n' : Nat) (ts : List Tie) (ps : List Pt) (s' : Src), Clear n' ts ps ∧ ∀ r : Sl,
    xsl fn (.cons (.asg (.tp (.cons (.nm 5) (.cons (.nm 6) .nil))) (.call 15 (.cons (.var 1) (.cons (.var 3) (.cons (.var 4) .nil))))) (.cons (.set 3 (.sub (.var 5) (.cI 0))) r)) [x0, some .src, x2, some (.fz (.int (n : Nat))), some (.fz (.int (most : Nat))), x5, x6, x7, x8, x9, x10, x11, x12, x13, x14, x15, x16, x17, x18] (some s) = xsl fn r [x0, some .src, x2, some (.fz (.int (n' : Nat))), some (.fz (.int (most : Nat))), some (.fz (webD n' ts)), some (.fz (plD ps)), x7, x8, x9, x10, x11, x12, x13, x14, x15, x16, x17, x18] (some s') := by
  obtain ⟨n', ts, ps, s', h, c⟩ := T.draw s n most hn hm
  refine ⟨n', ts, ps, s', c, fun r => ?_⟩
  have H1 : xS fn (.asg (.tp (.cons (.nm 5) (.cons (.nm 6) .nil))) (.call 15 (.cons (.var 1) (.cons (.var 3) (.cons (.var 4) .nil))))) [x0, some .src, x2, some (.fz (.int (n : Nat))), some (.fz (.int (most : Nat))), x5, x6, x7, x8, x9, x10, x11, x12, x13, x14, x15, x16, x17, x18] (some s) = .nx [x0, some .src, x2, some (.fz (.int (n : Nat))), some (.fz (.int (most : Nat))), some (.fz (webD n' ts)), some (.fz (plD ps)), x7, x8, x9, x10, x11, x12, x13, x14, x15, x16, x17, x18] (some s') := by
    simp only [e_ev_var, e_ev_cI, e_ev_cS, e_ev_cN, e_ev_cB, e_ev_neg, e_ev_tup, e_ev_lst, e_ev_bin, e_ev_cmp, e_ev_chn, e_ev_and, e_ev_or, e_ev_not, e_ev_ite, e_ev_sub, e_ev_slc, e_ev_rev, e_ev_call, e_ev_bi, e_ev_isi, e_ev_index, e_ev_pop, e_ev_popAt, e_evs_nil, e_evs_cons, e_evAnd_one, e_evAnd_more, e_evOr_one, e_evOr_more, e_evO_no, e_evO_yes, e_evI_seq, e_evI_rng1, e_evI_rng2, e_evI_enm, e_evI_zp, e_xS_asg, e_xS_set, e_xS_par, e_xS_par3, e_xS_exp, e_xS_app, e_xS_ext, e_xS_setIx, e_xS_ret, e_xS_ife, e_xS_pas, e_xS_brk, e_xS_cnt, e_xS_nev, e_xsl_nil, e_xsl_cons, q_bind, q_toS, q_seq1, q_seq2, q_seq3, q_seq4, q_end1, q_end2, q_tst, q_pick, q_ret1, q_ret2, q_ret3, q_dv1, q_dv2, q_es1, q_es2, q_ea0, q_ea1, q_ea2, q_ea3, q_ec1, line0, line1, line2, line3, line4, line5, line6, line7, line8, q_sk1, q_sk2, q_sk3, q_noX, q_hold1, q_hold2, q_frz1, id, q_goS, q_sv1, q_sv2, q_sv3, q_ub1, q_ub2, q_pv, parS, parS3, Nat.reduceLT, Nat.reduceLeDiff, q_andK, q_orK, q_chnK, q_ite1, q_ite2, q_ite3, q_ite4, q_ite5, decide_eq_true_eq, Bool.not_eq_true', decide_eq_false_iff_not, q_add, q_sub, q_lt, q_le, q_gt, q_ge, q_eqI, q_neI, q_len1, q_len2, q_int1, q_int2, q_min, q_max, q_tup1, q_tup2, q_lst1, q_lst2, q_subL, q_subT, q_slL, q_slT, argE, List.getElem?_cons_zero, List.getElem?_cons_succ, List.getElem?_nil, List.map_cons, List.map_nil, List.replicate, List.nil_append, List.cons_append, List.append_nil, Option.map_some, Option.map_none, if_true, if_false, reduceIte, List.length_cons, List.length_nil, Nat.reduceAdd, Nat.reduceSub, List.mapM_cons, List.mapM_nil, Option.bind_eq_bind, Option.bind_some, Option.pure_def, atI_lit, List.set_cons_zero, List.set_cons_succ, q_as1, q_as2, q_as3, q_as4, q_as5, q_wp0, q_wp1, q_kp0, q_kp1, q_ed0, q_ed1, Bool.false_eq_true, Bool.not_true, Bool.not_false, h]
  have H2 : xS fn (.set 3 (.sub (.var 5) (.cI 0))) [x0, some .src, x2, some (.fz (.int (n : Nat))), some (.fz (.int (most : Nat))), some (.fz (webD n' ts)), some (.fz (plD ps)), x7, x8, x9, x10, x11, x12, x13, x14, x15, x16, x17, x18] (some s') = .nx [x0, some .src, x2, some (.fz (.int (n' : Nat))), some (.fz (.int (most : Nat))), some (.fz (webD n' ts)), some (.fz (plD ps)), x7, x8, x9, x10, x11, x12, x13, x14, x15, x16, x17, x18] (some s') := by
    simp only [e_ev_var, e_ev_cI, e_ev_cS, e_ev_cN, e_ev_cB, e_ev_neg, e_ev_tup, e_ev_lst, e_ev_bin, e_ev_cmp, e_ev_chn, e_ev_and, e_ev_or, e_ev_not, e_ev_ite, e_ev_sub, e_ev_slc, e_ev_rev, e_ev_call, e_ev_bi, e_ev_isi, e_ev_index, e_ev_pop, e_ev_popAt, e_evs_nil, e_evs_cons, e_evAnd_one, e_evAnd_more, e_evOr_one, e_evOr_more, e_evO_no, e_evO_yes, e_evI_seq, e_evI_rng1, e_evI_rng2, e_evI_enm, e_evI_zp, e_xS_asg, e_xS_set, e_xS_par, e_xS_par3, e_xS_exp, e_xS_app, e_xS_ext, e_xS_setIx, e_xS_ret, e_xS_ife, e_xS_pas, e_xS_brk, e_xS_cnt, e_xS_nev, e_xsl_nil, e_xsl_cons, q_bind, q_toS, q_seq1, q_seq2, q_seq3, q_seq4, q_end1, q_end2, q_tst, q_pick, q_ret1, q_ret2, q_ret3, q_dv1, q_dv2, q_es1, q_es2, q_ea0, q_ea1, q_ea2, q_ea3, q_ec1, line0, line1, line2, line3, line4, line5, line6, line7, line8, q_sk1, q_sk2, q_sk3, q_noX, q_hold1, q_hold2, q_frz1, id, q_goS, q_sv1, q_sv2, q_sv3, q_ub1, q_ub2, q_pv, parS, parS3, Nat.reduceLT, Nat.reduceLeDiff, q_andK, q_orK, q_chnK, q_ite1, q_ite2, q_ite3, q_ite4, q_ite5, decide_eq_true_eq, Bool.not_eq_true', decide_eq_false_iff_not, q_add, q_sub, q_lt, q_le, q_gt, q_ge, q_eqI, q_neI, q_len1, q_len2, q_int1, q_int2, q_min, q_max, q_tup1, q_tup2, q_lst1, q_lst2, q_subL, q_subT, q_slL, q_slT, argE, List.getElem?_cons_zero, List.getElem?_cons_succ, List.getElem?_nil, List.map_cons, List.map_nil, List.replicate, List.nil_append, List.cons_append, List.append_nil, Option.map_some, Option.map_none, if_true, if_false, reduceIte, List.length_cons, List.length_nil, Nat.reduceAdd, Nat.reduceSub, List.mapM_cons, List.mapM_nil, Option.bind_eq_bind, Option.bind_some, Option.pure_def, atI_lit, List.set_cons_zero, List.set_cons_succ, q_as1, q_as2, q_as3, q_as4, q_as5, q_wp0, q_wp1, q_kp0, q_kp1, q_ed0, q_ed1, Bool.false_eq_true, Bool.not_true, Bool.not_false, web0]
  rw [xsl_nx H1, xsl_nx H2]
omit T in
theorem Clear.ok {n : Nat} {ts : List Tie} {ps : List Pt} (c : Clear n ts ps) : Ok n ts ps := c.pok.ok c.tie (by have := c.few; omega)
omit T in
theorem Clear.nil {n : Nat} {ts : List Tie} {ps : List Pt} (c : Clear n ts ps) : meetL ps ts = [] := by
  have f := c.clr
  cases f with
  | clear h h' h'' => exact h''
theorem lap3 (w : Wd) {n : Nat} {ts : List Tie} {ps : List Pt} (c : Clear n ts ps) :
    xS fn (.ife (.or (.cons (.cmp .notn (.call 7 (.cons (.var 5) (.cons (.var 6) .nil))) .cN) (.cons (.cmp .ne (.call 4 (.cons (.var 5) (.cons (.var 6) .nil))) (.tup .nil)) .nil))) (.cons (.ret (.cB false)) .nil) .nil) [x0, some .src, x2, x3, x4, some (.fz (webD n ts)), some (.fz (plD ps)), x7, x8, x9, x10, x11, x12, x13, x14, x15, x16, x17, x18] w = .nx [x0, some .src, x2, x3, x4, some (.fz (webD n ts)), some (.fz (plD ps)), x7, x8, x9, x10, x11, x12, x13, x14, x15, x16, x17, x18] w := by
  have h7 := T.fault w _ _ _ c.ok _ c.clr
  have h4 := T.meets w _ _ _ c.ok
  have hne := ne_nilT c.ok
  rw [c.nil] at h4 hne
  simp only [e_ev_var, e_ev_cI, e_ev_cS, e_ev_cN, e_ev_cB, e_ev_neg, e_ev_tup, e_ev_lst, e_ev_bin, e_ev_cmp, e_ev_chn, e_ev_and, e_ev_or, e_ev_not, e_ev_ite, e_ev_sub, e_ev_slc, e_ev_rev, e_ev_call, e_ev_bi, e_ev_isi, e_ev_index, e_ev_pop, e_ev_popAt, e_evs_nil, e_evs_cons, e_evAnd_one, e_evAnd_more, e_evOr_one, e_evOr_more, e_evO_no, e_evO_yes, e_evI_seq, e_evI_rng1, e_evI_rng2, e_evI_enm, e_evI_zp, e_xS_asg, e_xS_set, e_xS_par, e_xS_par3, e_xS_exp, e_xS_app, e_xS_ext, e_xS_setIx, e_xS_ret, e_xS_ife, e_xS_pas, e_xS_brk, e_xS_cnt, e_xS_nev, e_xsl_nil, e_xsl_cons, q_bind, q_toS, q_seq1, q_seq2, q_seq3, q_seq4, q_end1, q_end2, q_tst, q_pick, q_ret1, q_ret2, q_ret3, q_dv1, q_dv2, q_es1, q_es2, q_ea0, q_ea1, q_ea2, q_ea3, q_ec1, line0, line1, line2, line3, line4, line5, line6, line7, line8, q_sk1, q_sk2, q_sk3, q_noX, q_hold1, q_hold2, q_frz1, id, q_goS, q_sv1, q_sv2, q_sv3, q_ub1, q_ub2, q_pv, parS, parS3, Nat.reduceLT, Nat.reduceLeDiff, q_andK, q_orK, q_chnK, q_ite1, q_ite2, q_ite3, q_ite4, q_ite5, decide_eq_true_eq, Bool.not_eq_true', decide_eq_false_iff_not, q_add, q_sub, q_lt, q_le, q_gt, q_ge, q_eqI, q_neI, q_len1, q_len2, q_int1, q_int2, q_min, q_max, q_tup1, q_tup2, q_lst1, q_lst2, q_subL, q_subT, q_slL, q_slT, argE, List.getElem?_cons_zero, List.getElem?_cons_succ, List.getElem?_nil, List.map_cons, List.map_nil, List.replicate, List.nil_append, List.cons_append, List.append_nil, Option.map_some, Option.map_none, if_true, if_false, reduceIte, List.length_cons, List.length_nil, Nat.reduceAdd, Nat.reduceSub, List.mapM_cons, List.mapM_nil, Option.bind_eq_bind, Option.bind_some, Option.pure_def, atI_lit, List.set_cons_zero, List.set_cons_succ, q_as1, q_as2, q_as3, q_as4, q_as5, q_wp0, q_wp1, q_kp0, q_kp1, q_ed0, q_ed1, Bool.false_eq_true, Bool.not_true, Bool.not_false, h7, h4, notN3, hne, ne_eq, not_true_eq_false, decide_false]
theorem lap45 (s : Src) {n most : Nat} (hn : 1 ≤ n ∧ n ≤ 8) (hm : 1 ≤ most ∧ most ≤ 1000) : ∃ (k : Nat) (p : Pt) (s' : Src), k < n ∧ SmP p ∧ ∀ r : Sl,
    xsl fn (.cons (.set 7 (.call 8 (.cons (.var 1) (.cons (.var 3) .nil)))) (.cons (.set 8 (.tup (.cons (.call 8 (.cons (.var 1) (.cons (.var 4) .nil))) (.cons (.call 8 (.cons (.var 1) (.cons (.var 4) .nil))) .nil)))) r)) [x0, some .src, x2, some (.fz (.int (n : Nat))), some (.fz (.int (most : Nat))), x5, x6, x7, x8, x9, x10, x11, x12, x13, x14, x15, x16, x17, x18] (some s) = xsl fn r [x0, some .src, x2, some (.fz (.int (n : Nat))), some (.fz (.int (most : Nat))), x5, x6, some (.fz (.int (k : Nat))), some (.fz (pt p)), x9, x10, x11, x12, x13, x14, x15, x16, x17, x18] (some s') := by
  obtain ⟨k, s1, hk, c1⟩ := T.pick n s (by omega) (by omega)
  obtain ⟨i, s2, hi, c2⟩ := T.pick most s1 (by omega) (by omega)
  obtain ⟨j, s3, hj, c3⟩ := T.pick most s2 (by omega) (by omega)
  refine ⟨k, ((i : Int), (j : Int)), s3, hk, ⟨sm_nat (by omega), sm_nat (by omega)⟩, fun r => ?_⟩
  have H1 : xS fn (.set 7 (.call 8 (.cons (.var 1) (.cons (.var 3) .nil)))) [x0, some .src, x2, some (.fz (.int (n : Nat))), some (.fz (.int (most : Nat))), x5, x6, x7, x8, x9, x10, x11, x12, x13, x14, x15, x16, x17, x18] (some s) = .nx [x0, some .src, x2, some (.fz (.int (n : Nat))), some (.fz (.int (most : Nat))), x5, x6, some (.fz (.int (k : Nat))), x8, x9, x10, x11, x12, x13, x14, x15, x16, x17, x18] (some s1) := by
    simp only [e_ev_var, e_ev_cI, e_ev_cS, e_ev_cN, e_ev_cB, e_ev_neg, e_ev_tup, e_ev_lst, e_ev_bin, e_ev_cmp, e_ev_chn, e_ev_and, e_ev_or, e_ev_not, e_ev_ite, e_ev_sub, e_ev_slc, e_ev_rev, e_ev_call, e_ev_bi, e_ev_isi, e_ev_index, e_ev_pop, e_ev_popAt, e_evs_nil, e_evs_cons, e_evAnd_one, e_evAnd_more, e_evOr_one, e_evOr_more, e_evO_no, e_evO_yes, e_evI_seq, e_evI_rng1, e_evI_rng2, e_evI_enm, e_evI_zp, e_xS_asg, e_xS_set, e_xS_par, e_xS_par3, e_xS_exp, e_xS_app, e_xS_ext, e_xS_setIx, e_xS_ret, e_xS_ife, e_xS_pas, e_xS_brk, e_xS_cnt, e_xS_nev, e_xsl_nil, e_xsl_cons, q_bind, q_toS, q_seq1, q_seq2, q_seq3, q_seq4, q_end1, q_end2, q_tst, q_pick, q_ret1, q_ret2, q_ret3, q_dv1, q_dv2, q_es1, q_es2, q_ea0, q_ea1, q_ea2, q_ea3, q_ec1, line0, line1, line2, line3, line4, line5, line6, line7, line8, q_sk1, q_sk2, q_sk3, q_noX, q_hold1, q_hold2, q_frz1, id, q_goS, q_sv1, q_sv2, q_sv3, q_ub1, q_ub2, q_pv, parS, parS3, Nat.reduceLT, Nat.reduceLeDiff, q_andK, q_orK, q_chnK, q_ite1, q_ite2, q_ite3, q_ite4, q_ite5, decide_eq_true_eq, Bool.not_eq_true', decide_eq_false_iff_not, q_add, q_sub, q_lt, q_le, q_gt, q_ge, q_eqI, q_neI, q_len1, q_len2, q_int1, q_int2, q_min, q_max, q_tup1, q_tup2, q_lst1, q_lst2, q_subL, q_subT, q_slL, q_slT, argE, List.getElem?_cons_zero, List.getElem?_cons_succ, List.getElem?_nil, List.map_cons, List.map_nil, List.replicate, List.nil_append, List.cons_append, List.append_nil, Option.map_some, Option.map_none, if_true, if_false, reduceIte, List.length_cons, List.length_nil, Nat.reduceAdd, Nat.reduceSub, List.mapM_cons, List.mapM_nil, Option.bind_eq_bind, Option.bind_some, Option.pure_def, atI_lit, List.set_cons_zero, List.set_cons_succ, q_as1, q_as2, q_as3, q_as4, q_as5, q_wp0, q_wp1, q_kp0, q_kp1, q_ed0, q_ed1, Bool.false_eq_true, Bool.not_true, Bool.not_false, c1]
  have H2 : xS fn (.set 8 (.tup (.cons (.call 8 (.cons (.var 1) (.cons (.var 4) .nil))) (.cons (.call 8 (.cons (.var 1) (.cons (.var 4) .nil))) .nil)))) [x0, some .src, x2, some (.fz (.int (n : Nat))), some (.fz (.int (most : Nat))), x5, x6, some (.fz (.int (k : Nat))), x8, x9, x10, x11, x12, x13, x14, x15, x16, x17, x18] (some s1) = .nx [x0, some .src, x2, some (.fz (.int (n : Nat))), some (.fz (.int (most : Nat))), x5, x6, some (.fz (.int (k : Nat))), some (.fz (pt ((i : Int), (j : Int)))), x9, x10, x11, x12, x13, x14, x15, x16, x17, x18] (some s3) := by
    simp only [e_ev_var, e_ev_cI, e_ev_cS, e_ev_cN, e_ev_cB, e_ev_neg, e_ev_tup, e_ev_lst, e_ev_bin, e_ev_cmp, e_ev_chn, e_ev_and, e_ev_or, e_ev_not, e_ev_ite, e_ev_sub, e_ev_slc, e_ev_rev, e_ev_call, e_ev_bi, e_ev_isi, e_ev_index, e_ev_pop, e_ev_popAt, e_evs_nil, e_evs_cons, e_evAnd_one, e_evAnd_more, e_evOr_one, e_evOr_more, e_evO_no, e_evO_yes, e_evI_seq, e_evI_rng1, e_evI_rng2, e_evI_enm, e_evI_zp, e_xS_asg, e_xS_set, e_xS_par, e_xS_par3, e_xS_exp, e_xS_app, e_xS_ext, e_xS_setIx, e_xS_ret, e_xS_ife, e_xS_pas, e_xS_brk, e_xS_cnt, e_xS_nev, e_xsl_nil, e_xsl_cons, q_bind, q_toS, q_seq1, q_seq2, q_seq3, q_seq4, q_end1, q_end2, q_tst, q_pick, q_ret1, q_ret2, q_ret3, q_dv1, q_dv2, q_es1, q_es2, q_ea0, q_ea1, q_ea2, q_ea3, q_ec1, line0, line1, line2, line3, line4, line5, line6, line7, line8, q_sk1, q_sk2, q_sk3, q_noX, q_hold1, q_hold2, q_frz1, id, q_goS, q_sv1, q_sv2, q_sv3, q_ub1, q_ub2, q_pv, parS, parS3, Nat.reduceLT, Nat.reduceLeDiff, q_andK, q_orK, q_chnK, q_ite1, q_ite2, q_ite3, q_ite4, q_ite5, decide_eq_true_eq, Bool.not_eq_true', decide_eq_false_iff_not, q_add, q_sub, q_lt, q_le, q_gt, q_ge, q_eqI, q_neI, q_len1, q_len2, q_int1, q_int2, q_min, q_max, q_tup1, q_tup2, q_lst1, q_lst2, q_subL, q_subT, q_slL, q_slT, argE, List.getElem?_cons_zero, List.getElem?_cons_succ, List.getElem?_nil, List.map_cons, List.map_nil, List.replicate, List.nil_append, List.cons_append, List.append_nil, Option.map_some, Option.map_none, if_true, if_false, reduceIte, List.length_cons, List.length_nil, Nat.reduceAdd, Nat.reduceSub, List.mapM_cons, List.mapM_nil, Option.bind_eq_bind, Option.bind_some, Option.pure_def, atI_lit, List.set_cons_zero, List.set_cons_succ, q_as1, q_as2, q_as3, q_as4, q_as5, q_wp0, q_wp1, q_kp0, q_kp1, q_ed0, q_ed1, Bool.false_eq_true, Bool.not_true, Bool.not_false, c2, c3, pt]
  rw [xsl_nx H1, xsl_nx H2]
omit T in
theorem sm_mid {a b : Int} (ha : Sm a) (hb : Sm b) : Sm ((a + b) / 2) := by unfold Sm at *; omega
theorem lap6 (s : Src) {n : Nat} {ts : List Tie} {ps : List Pt} (c : Clear n ts ps) {p : Pt} (hp : SmP p) : ∃ (p' : Pt) (s' : Src) (y9 y10 : Option EV), SmP p' ∧
    xS fn (.ife (.and (.cons (.cmp .eq (.call 8 (.cons (.var 1) (.cons (.cI 3) .nil))) (.cI 0)) (.cons (.cmp .ne (.sub (.var 5) (.cI 1)) (.tup .nil)) .nil))) (.cons (.asg (.tp (.cons (.nm 9) (.cons (.nm 10) .nil))) (.sub (.sub (.var 5) (.cI 1)) (.call 8 (.cons (.var 1) (.cons (.bi .len (.cons (.sub (.var 5) (.cI 1)) .nil)) .nil))))) (.cons (.set 8 (.tup (.cons (.bin .fdiv (.bin .add (.sub (.sub (.var 6) (.var 9)) (.cI 0)) (.sub (.sub (.var 6) (.var 10)) (.cI 0))) (.cI 2)) (.cons (.bin .fdiv (.bin .add (.sub (.sub (.var 6) (.var 9)) (.cI 1)) (.sub (.sub (.var 6) (.var 10)) (.cI 1))) (.cI 2)) .nil)))) .nil)) .nil) [x0, some .src, x2, x3, x4, some (.fz (webD n ts)), some (.fz (plD ps)), x7, some (.fz (pt p)), x9, x10, x11, x12, x13, x14, x15, x16, x17, x18] (some s) = .nx [x0, some .src, x2, x3, x4, some (.fz (webD n ts)), some (.fz (plD ps)), x7, some (.fz (pt p')), y9, y10, x11, x12, x13, x14, x15, x16, x17, x18] (some s') := by
  obtain ⟨j, s1, hj, c1⟩ := T.pick 3 s (by omega) (by omega)
  have c1' : fn 8 [.src, .fz (.int 3)] (some s) = .ok (.fz (.int (j : Nat))) (some s1) := c1
  have tmt : ∀ d, d ∈ ts.map tieD → Tm 1 100 d := by
    intro d hd
    rw [List.mem_map] at hd
    obtain ⟨t, ht, rfl⟩ := hd
    exact tm_tie (c.tie t ht) c.ok.n9
  have hne : cmpD .ne (.tuple (ts.map tieD)) (.tuple []) = some (decide (ts ≠ [])) := by
    rw [q_ne (okEq_tm (Tm.tuple tmt) tm_nil (by decide) (by decide))]
    congr 1
    cases ts with
    | nil => rfl
    | cons a r => simp [PyData.eqv, PyData.eqvAll]
  have few := c.few
  by_cases j0 : ((j : Nat) : Int) = 0
  · by_cases t0 : ts = []
    · refine ⟨p, s1, x9, x10, hp, ?_⟩
      have hj0 : (((j : Nat) : Int) = 0) = True := eq_true j0
      have ht0 : (ts ≠ []) = False := eq_false (fun h => h t0)
      simp only [e_ev_var, e_ev_cI, e_ev_cS, e_ev_cN, e_ev_cB, e_ev_neg, e_ev_tup, e_ev_lst, e_ev_bin, e_ev_cmp, e_ev_chn, e_ev_and, e_ev_or, e_ev_not, e_ev_ite, e_ev_sub, e_ev_slc, e_ev_rev, e_ev_call, e_ev_bi, e_ev_isi, e_ev_index, e_ev_pop, e_ev_popAt, e_evs_nil, e_evs_cons, e_evAnd_one, e_evAnd_more, e_evOr_one, e_evOr_more, e_evO_no, e_evO_yes, e_evI_seq, e_evI_rng1, e_evI_rng2, e_evI_enm, e_evI_zp, e_xS_asg, e_xS_set, e_xS_par, e_xS_par3, e_xS_exp, e_xS_app, e_xS_ext, e_xS_setIx, e_xS_ret, e_xS_ife, e_xS_pas, e_xS_brk, e_xS_cnt, e_xS_nev, e_xsl_nil, e_xsl_cons, q_bind, q_toS, q_seq1, q_seq2, q_seq3, q_seq4, q_end1, q_end2, q_tst, q_pick, q_ret1, q_ret2, q_ret3, q_dv1, q_dv2, q_es1, q_es2, q_ea0, q_ea1, q_ea2, q_ea3, q_ec1, line0, line1, line2, line3, line4, line5, line6, line7, line8, q_sk1, q_sk2, q_sk3, q_noX, q_hold1, q_hold2, q_frz1, id, q_goS, q_sv1, q_sv2, q_sv3, q_ub1, q_ub2, q_pv, parS, parS3, Nat.reduceLT, Nat.reduceLeDiff, q_andK, q_orK, q_chnK, q_ite1, q_ite2, q_ite3, q_ite4, q_ite5, decide_eq_true_eq, Bool.not_eq_true', decide_eq_false_iff_not, q_add, q_sub, q_lt, q_le, q_gt, q_ge, q_eqI, q_neI, q_len1, q_len2, q_int1, q_int2, q_min, q_max, q_tup1, q_tup2, q_lst1, q_lst2, q_subL, q_subT, q_slL, q_slT, argE, List.getElem?_cons_zero, List.getElem?_cons_succ, List.getElem?_nil, List.map_cons, List.map_nil, List.replicate, List.nil_append, List.cons_append, List.append_nil, Option.map_some, Option.map_none, if_true, if_false, reduceIte, List.length_cons, List.length_nil, Nat.reduceAdd, Nat.reduceSub, List.mapM_cons, List.mapM_nil, Option.bind_eq_bind, Option.bind_some, Option.pure_def, atI_lit, List.set_cons_zero, List.set_cons_succ, q_as1, q_as2, q_as3, q_as4, q_as5, q_wp0, q_wp1, q_kp0, q_kp1, q_ed0, q_ed1, Bool.false_eq_true, Bool.not_true, Bool.not_false, c1', hj0, web1', hne, ht0, decide_true, decide_false]
    · have hpos : 1 ≤ ts.length := List.length_pos_iff.mpr t0
      obtain ⟨i, s2, hi, c2⟩ := T.pick ts.length s1 hpos (by omega)
      have htie := c.tie (tieAt ts i) (by
        simp only [tieAt, List.getD_eq_getElem?_getD, List.getElem?_eq_getElem hi, Option.getD_some]
        exact List.getElem_mem hi)
      have s1' := c.ok.at htie.1
      have s2' := c.ok.at htie.2
      have hj0 : (((j : Nat) : Int) = 0) = True := eq_true j0
      have ht0 : (ts ≠ []) = True := eq_true t0
      have hat : L2.atI (ts.map tieD) (i : Nat) = some (.tuple [.int ((tieAt ts i).1 : Nat), .int ((tieAt ts i).2 : Nat)]) := by
        rw [DL.atI_nat, ties_at ts i hi]; rfl
      refine ⟨(((at_ ps (tieAt ts i).1).1 + (at_ ps (tieAt ts i).2).1) / 2, ((at_ ps (tieAt ts i).1).2 + (at_ ps (tieAt ts i).2).2) / 2), s2, some (.fz (.int ((tieAt ts i).1 : Nat))), some (.fz (.int ((tieAt ts i).2 : Nat))), ⟨sm_mid s1'.1 s2'.1, sm_mid s1'.2 s2'.2⟩, ?_⟩
      · have hdiv : ∀ a : Int, binD .fdiv (.int a) (.int 2) = some (.fz (.int (a / 2))) := fun a => q_div ⟨by decide, by decide⟩
        simp only [e_ev_var, e_ev_cI, e_ev_cS, e_ev_cN, e_ev_cB, e_ev_neg, e_ev_tup, e_ev_lst, e_ev_bin, e_ev_cmp, e_ev_chn, e_ev_and, e_ev_or, e_ev_not, e_ev_ite, e_ev_sub, e_ev_slc, e_ev_rev, e_ev_call, e_ev_bi, e_ev_isi, e_ev_index, e_ev_pop, e_ev_popAt, e_evs_nil, e_evs_cons, e_evAnd_one, e_evAnd_more, e_evOr_one, e_evOr_more, e_evO_no, e_evO_yes, e_evI_seq, e_evI_rng1, e_evI_rng2, e_evI_enm, e_evI_zp, e_xS_asg, e_xS_set, e_xS_par, e_xS_par3, e_xS_exp, e_xS_app, e_xS_ext, e_xS_setIx, e_xS_ret, e_xS_ife, e_xS_pas, e_xS_brk, e_xS_cnt, e_xS_nev, e_xsl_nil, e_xsl_cons, q_bind, q_toS, q_seq1, q_seq2, q_seq3, q_seq4, q_end1, q_end2, q_tst, q_pick, q_ret1, q_ret2, q_ret3, q_dv1, q_dv2, q_es1, q_es2, q_ea0, q_ea1, q_ea2, q_ea3, q_ec1, line0, line1, line2, line3, line4, line5, line6, line7, line8, q_sk1, q_sk2, q_sk3, q_noX, q_hold1, q_hold2, q_frz1, id, q_goS, q_sv1, q_sv2, q_sv3, q_ub1, q_ub2, q_pv, parS, parS3, Nat.reduceLT, Nat.reduceLeDiff, q_andK, q_orK, q_chnK, q_ite1, q_ite2, q_ite3, q_ite4, q_ite5, decide_eq_true_eq, Bool.not_eq_true', decide_eq_false_iff_not, q_add, q_sub, q_lt, q_le, q_gt, q_ge, q_eqI, q_neI, q_len1, q_len2, q_int1, q_int2, q_min, q_max, q_tup1, q_tup2, q_lst1, q_lst2, q_subL, q_subT, q_slL, q_slT, argE, List.getElem?_cons_zero, List.getElem?_cons_succ, List.getElem?_nil, List.map_cons, List.map_nil, List.replicate, List.nil_append, List.cons_append, List.append_nil, Option.map_some, Option.map_none, if_true, if_false, reduceIte, List.length_cons, List.length_nil, Nat.reduceAdd, Nat.reduceSub, List.mapM_cons, List.mapM_nil, Option.bind_eq_bind, Option.bind_some, Option.pure_def, atI_lit, List.set_cons_zero, List.set_cons_succ, q_as1, q_as2, q_as3, q_as4, q_as5, q_wp0, q_wp1, q_kp0, q_kp1, q_ed0, q_ed1, Bool.false_eq_true, Bool.not_true, Bool.not_false, c1', hj0, web1', hne, ht0, decide_true, decide_false, List.length_map, c2, hat, pl_at' c.ok htie.1, pl_at' c.ok htie.2, pt0, pt1, hdiv, pt]
  · refine ⟨p, s1, x9, x10, hp, ?_⟩
    simp only [e_ev_var, e_ev_cI, e_ev_cS, e_ev_cN, e_ev_cB, e_ev_neg, e_ev_tup, e_ev_lst, e_ev_bin, e_ev_cmp, e_ev_chn, e_ev_and, e_ev_or, e_ev_not, e_ev_ite, e_ev_sub, e_ev_slc, e_ev_rev, e_ev_call, e_ev_bi, e_ev_isi, e_ev_index, e_ev_pop, e_ev_popAt, e_evs_nil, e_evs_cons, e_evAnd_one, e_evAnd_more, e_evOr_one, e_evOr_more, e_evO_no, e_evO_yes, e_evI_seq, e_evI_rng1, e_evI_rng2, e_evI_enm, e_evI_zp, e_xS_asg, e_xS_set, e_xS_par, e_xS_par3, e_xS_exp, e_xS_app, e_xS_ext, e_xS_setIx, e_xS_ret, e_xS_ife, e_xS_pas, e_xS_brk, e_xS_cnt, e_xS_nev, e_xsl_nil, e_xsl_cons, q_bind, q_toS, q_seq1, q_seq2, q_seq3, q_seq4, q_end1, q_end2, q_tst, q_pick, q_ret1, q_ret2, q_ret3, q_dv1, q_dv2, q_es1, q_es2, q_ea0, q_ea1, q_ea2, q_ea3, q_ec1, line0, line1, line2, line3, line4, line5, line6, line7, line8, q_sk1, q_sk2, q_sk3, q_noX, q_hold1, q_hold2, q_frz1, id, q_goS, q_sv1, q_sv2, q_sv3, q_ub1, q_ub2, q_pv, parS, parS3, Nat.reduceLT, Nat.reduceLeDiff, q_andK, q_orK, q_chnK, q_ite1, q_ite2, q_ite3, q_ite4, q_ite5, decide_eq_true_eq, Bool.not_eq_true', decide_eq_false_iff_not, q_add, q_sub, q_lt, q_le, q_gt, q_ge, q_eqI, q_neI, q_len1, q_len2, q_int1, q_int2, q_min, q_max, q_tup1, q_tup2, q_lst1, q_lst2, q_subL, q_subT, q_slL, q_slT, argE, List.getElem?_cons_zero, List.getElem?_cons_succ, List.getElem?_nil, List.map_cons, List.map_nil, List.replicate, List.nil_append, List.cons_append, List.append_nil, Option.map_some, Option.map_none, if_true, if_false, reduceIte, List.length_cons, List.length_nil, Nat.reduceAdd, Nat.reduceSub, List.mapM_cons, List.mapM_nil, Option.bind_eq_bind, Option.bind_some, Option.pure_def, atI_lit, List.set_cons_zero, List.set_cons_succ, q_as1, q_as2, q_as3, q_as4, q_as5, q_wp0, q_wp1, q_kp0, q_kp1, q_ed0, q_ed1, Bool.false_eq_true, Bool.not_true, Bool.not_false, c1', j0, decide_false]
end
end K37

set_option Elab.async false
set_option linter.all false
set_option maxRecDepth 100000
set_option maxHeartbeats 8000000
set_option exponentiation.threshold 1000
set_option autoImplicit false
namespace K37
open PySem PySem.Spec L2 DL
def putD (ds : List PyData) (k : Nat) (d : PyData) : List PyData := ds.take k ++ [d] ++ ds.drop (k + 1)
def putP (ps : List Pt) (k : Nat) (p : Pt) : List Pt := ps.take k ++ [p] ++ ps.drop (k + 1)
theorem put_map (ps : List Pt) (k : Nat) (p : Pt) : putD (ps.map pt) k (pt p) = (putP ps k p).map pt := by
  simp [putD, putP, List.map_take, List.map_drop]
theorem put_len {ds : List PyData} {k : Nat} (h : k < ds.length) (d : PyData) : (putD ds k d).length = ds.length := by
  simp [putD]; omega
theorem putP_len {ps : List Pt} {k : Nat} (h : k < ps.length) (p : Pt) : (putP ps k p).length = ps.length := by
  simp [putP]; omega
theorem putP_mem {ps : List Pt} {k : Nat} {p q : Pt} (h : q ∈ putP ps k p) : q ∈ ps ∨ q = p := by
  unfold putP at h
  simp only [List.mem_append, List.mem_singleton] at h
  rcases h with (h | h) | h
  · exact .inl (List.mem_of_mem_take h)
  · exact .inr h
  · exact .inl (List.mem_of_mem_drop h)
def kp (x : Option EV) : Option EV := match (some x : Option (Option EV)) with
  | some (some (.fz d)) => some (.fz d)
  | _ => none
section
variable {fn : Fns} (x0 x2 x3 x4 x5 x6 x7 x8 x9 x10 x11 x12 x13 x14 x15 x16 x17 x18 : Option EV)
theorem ev_put {ps : List Pt} {k : Nat} (hl : ps.length ≤ 8) (w : Wd) {X : E} {v : EV} {d : PyData} {env : Nv} (h6 : env[6]? = some (some (.fz (plD ps)))) (h7 : env[7]? = some (some (.fz (.int (k : Nat))))) (hX : ev fn X env w = .ok v env w) (hv : esc1 env v = some (d, env)) :
    ev fn (.bin .add (.bin .add (.slc (.var 6) .no (.yes (.var 7))) (.tup (.cons X .nil))) (.slc (.var 6) (.yes (.bin .add (.var 7) (.cI 1))) .no)) env w = .ok (.fz (.tuple (putD (ps.map pt) k d))) env w := by
  unfold plD at h6
  have e1 : cutD (ps.map pt) none (some ((k : Nat) : Int)) = (ps.map pt).take k := cut_to _ _
  have e2 : cutD (ps.map pt) (some (((k : Nat) : Int) + 1)) none = (ps.map pt).drop (k + 1) := cut_from (ps.map pt) (k + 1)
  have c1 : binD .add (.tuple ((ps.map pt).take k)) (.tuple [d]) = some (.fz (.tuple ((ps.map pt).take k ++ [d]))) := q_catT (line_ge (by simp; omega))
  have c2 : binD .add (.tuple ((ps.map pt).take k ++ [d])) (.tuple ((ps.map pt).drop (k + 1))) = some (.fz (.tuple (putD (ps.map pt) k d))) := q_catT (line_ge (by simp; omega))
  simp only [e_ev_var, e_ev_cI, e_ev_cS, e_ev_cN, e_ev_cB, e_ev_neg, e_ev_tup, e_ev_lst, e_ev_bin, e_ev_cmp, e_ev_chn, e_ev_and, e_ev_or, e_ev_not, e_ev_ite, e_ev_sub, e_ev_slc, e_ev_rev, e_ev_call, e_ev_bi, e_ev_isi, e_ev_index, e_ev_pop, e_ev_popAt, e_evs_nil, e_evs_cons, e_evAnd_one, e_evAnd_more, e_evOr_one, e_evOr_more, e_evO_no, e_evO_yes, e_evI_seq, e_evI_rng1, e_evI_rng2, e_evI_enm, e_evI_zp, e_xS_asg, e_xS_set, e_xS_par, e_xS_par3, e_xS_exp, e_xS_app, e_xS_ext, e_xS_setIx, e_xS_ret, e_xS_ife, e_xS_pas, e_xS_brk, e_xS_cnt, e_xS_nev, e_xsl_nil, e_xsl_cons, q_bind, q_toS, q_seq1, q_seq2, q_seq3, q_seq4, q_end1, q_end2, q_tst, q_pick, q_ret1, q_ret2, q_ret3, q_dv1, q_dv2, q_es1, q_es2, q_ea0, q_ea1, q_ea2, q_ea3, q_ec1, line0, line1, line2, line3, line4, line5, line6, line7, line8, q_sk1, q_sk2, q_sk3, q_noX, q_hold1, q_hold2, q_frz1, id, q_goS, q_sv1, q_sv2, q_sv3, q_ub1, q_ub2, q_pv, parS, parS3, Nat.reduceLT, Nat.reduceLeDiff, q_andK, q_orK, q_chnK, q_ite1, q_ite2, q_ite3, q_ite4, q_ite5, decide_eq_true_eq, Bool.not_eq_true', decide_eq_false_iff_not, q_add, q_sub, q_lt, q_le, q_gt, q_ge, q_eqI, q_neI, q_len1, q_len2, q_int1, q_int2, q_min, q_max, q_tup1, q_tup2, q_lst1, q_lst2, q_subL, q_subT, q_slL, q_slT, argE, List.getElem?_cons_zero, List.getElem?_cons_succ, List.getElem?_nil, List.map_cons, List.map_nil, List.replicate, List.nil_append, List.cons_append, List.append_nil, Option.map_some, Option.map_none, if_true, if_false, reduceIte, List.length_cons, List.length_nil, Nat.reduceAdd, Nat.reduceSub, List.mapM_cons, List.mapM_nil, Option.bind_eq_bind, Option.bind_some, Option.pure_def, atI_lit, List.set_cons_zero, List.set_cons_succ, q_as1, q_as2, q_as3, q_as4, q_as5, q_wp0, q_wp1, q_kp0, q_kp1, q_ed0, q_ed1, Bool.false_eq_true, Bool.not_true, Bool.not_false, h6, h7, e1, e2, hX, hv, c1, c2]
theorem lap7 {ps : List Pt} {k : Nat} {p : Pt} (hl : ps.length ≤ 8) (w : Wd) :
    xS fn (.set 11 (.bin .add (.bin .add (.slc (.var 6) .no (.yes (.var 7))) (.tup (.cons (.var 8) .nil))) (.slc (.var 6) (.yes (.bin .add (.var 7) (.cI 1))) .no))) [x0, some .src, x2, x3, x4, x5, some (.fz (plD ps)), some (.fz (.int (k : Nat))), some (.fz (pt p)), x9, x10, x11, x12, x13, x14, x15, x16, x17, x18] w = .nx [x0, some .src, x2, x3, x4, x5, some (.fz (plD ps)), some (.fz (.int (k : Nat))), some (.fz (pt p)), x9, x10, some (.fz (plD (putP ps k p))), x12, x13, x14, x15, x16, x17, x18] w := by
  have h := ev_put (fn := fn) (X := .var 8) (v := .fz (pt p)) (d := pt p) (env := [x0, some .src, x2, x3, x4, x5, some (.fz (plD ps)), some (.fz (.int (k : Nat))), some (.fz (pt p)), x9, x10, x11, x12, x13, x14, x15, x16, x17, x18]) hl w rfl rfl (by simp only [e_ev_var, e_ev_cI, e_ev_cS, e_ev_cN, e_ev_cB, e_ev_neg, e_ev_tup, e_ev_lst, e_ev_bin, e_ev_cmp, e_ev_chn, e_ev_and, e_ev_or, e_ev_not, e_ev_ite, e_ev_sub, e_ev_slc, e_ev_rev, e_ev_call, e_ev_bi, e_ev_isi, e_ev_index, e_ev_pop, e_ev_popAt, e_evs_nil, e_evs_cons, e_evAnd_one, e_evAnd_more, e_evOr_one, e_evOr_more, e_evO_no, e_evO_yes, e_evI_seq, e_evI_rng1, e_evI_rng2, e_evI_enm, e_evI_zp, e_xS_asg, e_xS_set, e_xS_par, e_xS_par3, e_xS_exp, e_xS_app, e_xS_ext, e_xS_setIx, e_xS_ret, e_xS_ife, e_xS_pas, e_xS_brk, e_xS_cnt, e_xS_nev, e_xsl_nil, e_xsl_cons, q_bind, q_toS, q_seq1, q_seq2, q_seq3, q_seq4, q_end1, q_end2, q_tst, q_pick, q_ret1, q_ret2, q_ret3, q_dv1, q_dv2, q_es1, q_es2, q_ea0, q_ea1, q_ea2, q_ea3, q_ec1, line0, line1, line2, line3, line4, line5, line6, line7, line8, q_sk1, q_sk2, q_sk3, q_noX, q_hold1, q_hold2, q_frz1, id, q_goS, q_sv1, q_sv2, q_sv3, q_ub1, q_ub2, q_pv, parS, parS3, Nat.reduceLT, Nat.reduceLeDiff, q_andK, q_orK, q_chnK, q_ite1, q_ite2, q_ite3, q_ite4, q_ite5, decide_eq_true_eq, Bool.not_eq_true', decide_eq_false_iff_not, q_add, q_sub, q_lt, q_le, q_gt, q_ge, q_eqI, q_neI, q_len1, q_len2, q_int1, q_int2, q_min, q_max, q_tup1, q_tup2, q_lst1, q_lst2, q_subL, q_subT, q_slL, q_slT, argE, List.getElem?_cons_zero, List.getElem?_cons_succ, List.getElem?_nil, List.map_cons, List.map_nil, List.replicate, List.nil_append, List.cons_append, List.append_nil, Option.map_some, Option.map_none, if_true, if_false, reduceIte, List.length_cons, List.length_nil, Nat.reduceAdd, Nat.reduceSub, List.mapM_cons, List.mapM_nil, Option.bind_eq_bind, Option.bind_some, Option.pure_def, atI_lit, List.set_cons_zero, List.set_cons_succ, q_as1, q_as2, q_as3, q_as4, q_as5, q_wp0, q_wp1, q_kp0, q_kp1, q_ed0, q_ed1, Bool.false_eq_true, Bool.not_true, Bool.not_false]) rfl
  rw [put_map] at h
  rw [e_xS_set, h]
  simp only [q_toS, q_sv1, List.length_cons, List.length_nil, Nat.reduceAdd, Nat.reduceLT, if_true, List.set_cons_succ, List.set_cons_zero, q_goS, plD]
theorem lap8 (w : Wd) {n : Nat} {ts : List Tie} (hn : n ≤ 8) (ht : ∀ t, t ∈ ts → t.1 < n ∧ t.2 < n) : ∃ (l : List Tie) (y9 y10 y17 : Option EV), l.length ≤ 81 ∧ (∀ t, t ∈ l → t.1 < n ∧ t.2 < n) ∧
    xS fn (.set 12 (.lc [("a", 9), ("b", 10)] (.tp (.cons (.nm 9) (.cons (.nm 10) .nil))) (.seq (.lc [("i", 17)] (.nm 17) (.rng1 (.cI 81)) .nil (.tup (.cons (.bin .fdiv (.var 17) (.cI 9)) (.cons (.bin .mod (.var 17) (.cI 9)) .nil))))) (.cons (.and (.cons (.chn .lt .lt (.var 9) (.var 10) (.var 3)) (.cons (.cmp .notin (.tup (.cons (.var 9) (.cons (.var 10) .nil))) (.sub (.var 5) (.cI 1))) .nil))) .nil) (.tup (.cons (.var 9) (.cons (.var 10) .nil))))) [x0, some .src, x2, some (.fz (.int (n : Nat))), x4, some (.fz (webD n ts)), x6, x7, x8, x9, x10, x11, x12, x13, x14, x15, x16, x17, x18] w = .nx [x0, some .src, x2, some (.fz (.int (n : Nat))), x4, some (.fz (webD n ts)), x6, x7, x8, y9, y10, x11, some (.lst (l.map tieD)), x13, x14, x15, x16, y17, x18] w := by
  have inner : ev fn (.lc [("i", 17)] (.nm 17) (.rng1 (.cI 81)) .nil (.tup (.cons (.bin .fdiv (.var 17) (.cI 9)) (.cons (.bin .mod (.var 17) (.cI 9)) .nil)))) [x0, some .src, x2, some (.fz (.int (n : Nat))), x4, some (.fz (webD n ts)), x6, x7, x8, x9, x10, x11, x12, x13, x14, x15, x16, x17, x18] w
      = .ok (.lst ((List.range 81).map fun i => tieD (i / 9, i % 9))) [x0, some .src, x2, some (.fz (.int (n : Nat))), x4, some (.fz (webD n ts)), x6, x7, x8, x9, x10, x11, x12, x13, x14, x15, x16, kp x17, x18] w := by
    have := ev_mapM (fn := fn) (own := [("i", 17)]) (tg := .nm 17) (it := .rng1 (.cI 81)) (elt := .tup (.cons (.bin .fdiv (.var 17) (.cI 9)) (.cons (.bin .mod (.var 17) (.cI 9)) .nil))) (env := [x0, some .src, x2, some (.fz (.int (n : Nat))), x4, some (.fz (webD n ts)), x6, x7, x8, x9, x10, x11, x12, x13, x14, x15, x16, x17, x18]) (e1 := [x0, some .src, x2, some (.fz (.int (n : Nat))), x4, some (.fz (webD n ts)), x6, x7, x8, x9, x10, x11, x12, x13, x14, x15, x16, x17, x18]) (w := w)
      (g := fun i : Nat => .int (i : Nat)) (at_ := none) (raw := []) (List.range 81) (fun i => tieD (i / 9, i % 9)) ?_ (line_ge (by simp)) trivial ?_
    · exact this
    · rw [← rng0_map]
      exact evI_rng1N (n := 81) (by simp only [e_ev_var, e_ev_cI, e_ev_cS, e_ev_cN, e_ev_cB, e_ev_neg, e_ev_tup, e_ev_lst, e_ev_bin, e_ev_cmp, e_ev_chn, e_ev_and, e_ev_or, e_ev_not, e_ev_ite, e_ev_sub, e_ev_slc, e_ev_rev, e_ev_call, e_ev_bi, e_ev_isi, e_ev_index, e_ev_pop, e_ev_popAt, e_evs_nil, e_evs_cons, e_evAnd_one, e_evAnd_more, e_evOr_one, e_evOr_more, e_evO_no, e_evO_yes, e_evI_seq, e_evI_rng1, e_evI_rng2, e_evI_enm, e_evI_zp, e_xS_asg, e_xS_set, e_xS_par, e_xS_par3, e_xS_exp, e_xS_app, e_xS_ext, e_xS_setIx, e_xS_ret, e_xS_ife, e_xS_pas, e_xS_brk, e_xS_cnt, e_xS_nev, e_xsl_nil, e_xsl_cons, q_bind, q_toS, q_seq1, q_seq2, q_seq3, q_seq4, q_end1, q_end2, q_tst, q_pick, q_ret1, q_ret2, q_ret3, q_dv1, q_dv2, q_es1, q_es2, q_ea0, q_ea1, q_ea2, q_ea3, q_ec1, line0, line1, line2, line3, line4, line5, line6, line7, line8, q_sk1, q_sk2, q_sk3, q_noX, q_hold1, q_hold2, q_frz1, id, q_goS, q_sv1, q_sv2, q_sv3, q_ub1, q_ub2, q_pv, parS, parS3, Nat.reduceLT, Nat.reduceLeDiff, q_andK, q_orK, q_chnK, q_ite1, q_ite2, q_ite3, q_ite4, q_ite5, decide_eq_true_eq, Bool.not_eq_true', decide_eq_false_iff_not, q_add, q_sub, q_lt, q_le, q_gt, q_ge, q_eqI, q_neI, q_len1, q_len2, q_int1, q_int2, q_min, q_max, q_tup1, q_tup2, q_lst1, q_lst2, q_subL, q_subT, q_slL, q_slT, argE, List.getElem?_cons_zero, List.getElem?_cons_succ, List.getElem?_nil, List.map_cons, List.map_nil, List.replicate, List.nil_append, List.cons_append, List.append_nil, Option.map_some, Option.map_none, if_true, if_false, reduceIte, List.length_cons, List.length_nil, Nat.reduceAdd, Nat.reduceSub, List.mapM_cons, List.mapM_nil, Option.bind_eq_bind, Option.bind_some, Option.pure_def, atI_lit, List.set_cons_zero, List.set_cons_succ, q_as1, q_as2, q_as3, q_as4, q_as5, q_wp0, q_wp1, q_kp0, q_kp1, q_ed0, q_ed1, Bool.false_eq_true, Bool.not_true, Bool.not_false]; rfl) (by decide)
    · intro i hi
      refine ⟨[x0, some .src, x2, some (.fz (.int (n : Nat))), x4, some (.fz (webD n ts)), x6, x7, x8, x9, x10, x11, x12, x13, x14, x15, x16, some (.fz (.int (i : Nat))), x18], .fz (tieD (i / 9, i % 9)), rfl, ?_, rfl, rfl⟩
      have hd : binD .fdiv (.int (i : Nat)) (.int 9) = some (.fz (.int ((i / 9 : Nat) : Int))) := by
        rw [q_div ⟨by decide, by decide⟩, Int.natCast_ediv]; rfl
      have hm : binD .mod (.int (i : Nat)) (.int 9) = some (.fz (.int ((i % 9 : Nat) : Int))) := by
        rw [q_mod (by decide), Int.natCast_emod]; rfl
      simp only [e_ev_var, e_ev_cI, e_ev_cS, e_ev_cN, e_ev_cB, e_ev_neg, e_ev_tup, e_ev_lst, e_ev_bin, e_ev_cmp, e_ev_chn, e_ev_and, e_ev_or, e_ev_not, e_ev_ite, e_ev_sub, e_ev_slc, e_ev_rev, e_ev_call, e_ev_bi, e_ev_isi, e_ev_index, e_ev_pop, e_ev_popAt, e_evs_nil, e_evs_cons, e_evAnd_one, e_evAnd_more, e_evOr_one, e_evOr_more, e_evO_no, e_evO_yes, e_evI_seq, e_evI_rng1, e_evI_rng2, e_evI_enm, e_evI_zp, e_xS_asg, e_xS_set, e_xS_par, e_xS_par3, e_xS_exp, e_xS_app, e_xS_ext, e_xS_setIx, e_xS_ret, e_xS_ife, e_xS_pas, e_xS_brk, e_xS_cnt, e_xS_nev, e_xsl_nil, e_xsl_cons, q_bind, q_toS, q_seq1, q_seq2, q_seq3, q_seq4, q_end1, q_end2, q_tst, q_pick, q_ret1, q_ret2, q_ret3, q_dv1, q_dv2, q_es1, q_es2, q_ea0, q_ea1, q_ea2, q_ea3, q_ec1, line0, line1, line2, line3, line4, line5, line6, line7, line8, q_sk1, q_sk2, q_sk3, q_noX, q_hold1, q_hold2, q_frz1, id, q_goS, q_sv1, q_sv2, q_sv3, q_ub1, q_ub2, q_pv, parS, parS3, Nat.reduceLT, Nat.reduceLeDiff, q_andK, q_orK, q_chnK, q_ite1, q_ite2, q_ite3, q_ite4, q_ite5, decide_eq_true_eq, Bool.not_eq_true', decide_eq_false_iff_not, q_add, q_sub, q_lt, q_le, q_gt, q_ge, q_eqI, q_neI, q_len1, q_len2, q_int1, q_int2, q_min, q_max, q_tup1, q_tup2, q_lst1, q_lst2, q_subL, q_subT, q_slL, q_slT, argE, List.getElem?_cons_zero, List.getElem?_cons_succ, List.getElem?_nil, List.map_cons, List.map_nil, List.replicate, List.nil_append, List.cons_append, List.append_nil, Option.map_some, Option.map_none, if_true, if_false, reduceIte, List.length_cons, List.length_nil, Nat.reduceAdd, Nat.reduceSub, List.mapM_cons, List.mapM_nil, Option.bind_eq_bind, Option.bind_some, Option.pure_def, atI_lit, List.set_cons_zero, List.set_cons_succ, q_as1, q_as2, q_as3, q_as4, q_as5, q_wp0, q_wp1, q_kp0, q_kp1, q_ed0, q_ed1, Bool.false_eq_true, Bool.not_true, Bool.not_false, hd, hm, tieD]
  have tmt : ∀ d, d ∈ ts.map tieD → Tm 1 100 d := by
    intro d hd
    rw [List.mem_map] at hd
    obtain ⟨t, h, rfl⟩ := hd
    exact tm_tie (ht t h) (by omega)
  have ok2 : ∀ i, i < 81 → Tm 1 100 (tieD (i / 9, i % 9)) := fun i hi => tm_tie (n := 63) (t := (i / 9, i % 9)) ⟨by show i / 9 < 63; omega, by show i % 9 < 63; omega⟩ (by decide)
  let p : Nat → Bool := fun i => decide (i / 9 < i % 9 ∧ i % 9 < n) && !((ts.map tieD).any fun z => PyData.eqv z (tieD (i / 9, i % 9)))
  have outer := ev_filterM (fn := fn) (own := [("a", 9), ("b", 10)]) (tg := .tp (.cons (.nm 9) (.cons (.nm 10) .nil))) (it := .seq (.lc [("i", 17)] (.nm 17) (.rng1 (.cI 81)) .nil (.tup (.cons (.bin .fdiv (.var 17) (.cI 9)) (.cons (.bin .mod (.var 17) (.cI 9)) .nil)))))
    (c := .and (.cons (.chn .lt .lt (.var 9) (.var 10) (.var 3)) (.cons (.cmp .notin (.tup (.cons (.var 9) (.cons (.var 10) .nil))) (.sub (.var 5) (.cI 1))) .nil))) (elt := .tup (.cons (.var 9) (.cons (.var 10) .nil)))
    (env := [x0, some .src, x2, some (.fz (.int (n : Nat))), x4, some (.fz (webD n ts)), x6, x7, x8, x9, x10, x11, x12, x13, x14, x15, x16, x17, x18]) (e1 := [x0, some .src, x2, some (.fz (.int (n : Nat))), x4, some (.fz (webD n ts)), x6, x7, x8, x9, x10, x11, x12, x13, x14, x15, x16, kp x17, x18]) (w := w)
    (g := fun i : Nat => tieD (i / 9, i % 9)) (at_ := none) (raw := []) (List.range 81) p (fun i => tieD (i / 9, i % 9)) ?_ (line_ge (by simp)) trivial ?_
  · refine ⟨((List.range 81).filter p).map fun i => (i / 9, i % 9), kp x9, kp x10, kp x17, ?_, ?_, ?_⟩
    · rw [List.length_map]
      exact Nat.le_trans (List.length_filter_le _ _) (by simp)
    · intro t h
      rw [List.mem_map] at h
      obtain ⟨i, hi, rfl⟩ := h
      rw [List.mem_filter] at hi
      have := hi.2
      simp only [p, Bool.and_eq_true, decide_eq_true_eq] at this
      exact ⟨by show i / 9 < n; omega, this.1.2⟩
    · rw [e_xS_set, outer, List.map_map]
      rfl
  · rw [e_evI_seq, inner]
    rfl
  · intro i hi
    have hi81 : i < 81 := by simpa using hi
    refine ⟨[x0, some .src, x2, some (.fz (.int (n : Nat))), x4, some (.fz (webD n ts)), x6, x7, x8, some (.fz (.int ((i / 9 : Nat) : Int))), some (.fz (.int ((i % 9 : Nat) : Int))), x11, x12, x13, x14, x15, x16, kp x17, x18], rfl, ?_, ?_, rfl⟩
    · have hni : cmpD .notin (.tuple [.int ((i / 9 : Nat) : Int), .int ((i % 9 : Nat) : Int)]) (.tuple (ts.map tieD)) = some (!((ts.map tieD).any fun z => PyData.eqv z (tieD (i / 9, i % 9)))) :=
        q_ninT (okEq_tm (ok2 i hi81) (Tm.tuple tmt) (by decide) (by decide))
      by_cases c1 : i / 9 < i % 9
      · by_cases c2 : i % 9 < n
        · have e1 : (((i / 9 : Nat) : Int) < ((i % 9 : Nat) : Int)) = True := eq_true (by omega)
          have e2 : (((i % 9 : Nat) : Int) < (n : Nat)) = True := eq_true (by omega)
          simp only [e_ev_var, e_ev_cI, e_ev_cS, e_ev_cN, e_ev_cB, e_ev_neg, e_ev_tup, e_ev_lst, e_ev_bin, e_ev_cmp, e_ev_chn, e_ev_and, e_ev_or, e_ev_not, e_ev_ite, e_ev_sub, e_ev_slc, e_ev_rev, e_ev_call, e_ev_bi, e_ev_isi, e_ev_index, e_ev_pop, e_ev_popAt, e_evs_nil, e_evs_cons, e_evAnd_one, e_evAnd_more, e_evOr_one, e_evOr_more, e_evO_no, e_evO_yes, e_evI_seq, e_evI_rng1, e_evI_rng2, e_evI_enm, e_evI_zp, e_xS_asg, e_xS_set, e_xS_par, e_xS_par3, e_xS_exp, e_xS_app, e_xS_ext, e_xS_setIx, e_xS_ret, e_xS_ife, e_xS_pas, e_xS_brk, e_xS_cnt, e_xS_nev, e_xsl_nil, e_xsl_cons, q_bind, q_toS, q_seq1, q_seq2, q_seq3, q_seq4, q_end1, q_end2, q_tst, q_pick, q_ret1, q_ret2, q_ret3, q_dv1, q_dv2, q_es1, q_es2, q_ea0, q_ea1, q_ea2, q_ea3, q_ec1, line0, line1, line2, line3, line4, line5, line6, line7, line8, q_sk1, q_sk2, q_sk3, q_noX, q_hold1, q_hold2, q_frz1, id, q_goS, q_sv1, q_sv2, q_sv3, q_ub1, q_ub2, q_pv, parS, parS3, Nat.reduceLT, Nat.reduceLeDiff, q_andK, q_orK, q_chnK, q_ite1, q_ite2, q_ite3, q_ite4, q_ite5, decide_eq_true_eq, Bool.not_eq_true', decide_eq_false_iff_not, q_add, q_sub, q_lt, q_le, q_gt, q_ge, q_eqI, q_neI, q_len1, q_len2, q_int1, q_int2, q_min, q_max, q_tup1, q_tup2, q_lst1, q_lst2, q_subL, q_subT, q_slL, q_slT, argE, List.getElem?_cons_zero, List.getElem?_cons_succ, List.getElem?_nil, List.map_cons, List.map_nil, List.replicate, List.nil_append, List.cons_append, List.append_nil, Option.map_some, Option.map_none, if_true, if_false, reduceIte, List.length_cons, List.length_nil, Nat.reduceAdd, Nat.reduceSub, List.mapM_cons, List.mapM_nil, Option.bind_eq_bind, Option.bind_some, Option.pure_def, atI_lit, List.set_cons_zero, List.set_cons_succ, q_as1, q_as2, q_as3, q_as4, q_as5, q_wp0, q_wp1, q_kp0, q_kp1, q_ed0, q_ed1, Bool.false_eq_true, Bool.not_true, Bool.not_false, e1, e2, web1', hni, decide_true, p, c1, c2, true_and, Bool.true_and]
        · have e1 : (((i / 9 : Nat) : Int) < ((i % 9 : Nat) : Int)) = True := eq_true (by omega)
          have e2 : (((i % 9 : Nat) : Int) < (n : Nat)) = False := eq_false (by omega)
          simp only [e_ev_var, e_ev_cI, e_ev_cS, e_ev_cN, e_ev_cB, e_ev_neg, e_ev_tup, e_ev_lst, e_ev_bin, e_ev_cmp, e_ev_chn, e_ev_and, e_ev_or, e_ev_not, e_ev_ite, e_ev_sub, e_ev_slc, e_ev_rev, e_ev_call, e_ev_bi, e_ev_isi, e_ev_index, e_ev_pop, e_ev_popAt, e_evs_nil, e_evs_cons, e_evAnd_one, e_evAnd_more, e_evOr_one, e_evOr_more, e_evO_no, e_evO_yes, e_evI_seq, e_evI_rng1, e_evI_rng2, e_evI_enm, e_evI_zp, e_xS_asg, e_xS_set, e_xS_par, e_xS_par3, e_xS_exp, e_xS_app, e_xS_ext, e_xS_setIx, e_xS_ret, e_xS_ife, e_xS_pas, e_xS_brk, e_xS_cnt, e_xS_nev, e_xsl_nil, e_xsl_cons, q_bind, q_toS, q_seq1, q_seq2, q_seq3, q_seq4, q_end1, q_end2, q_tst, q_pick, q_ret1, q_ret2, q_ret3, q_dv1, q_dv2, q_es1, q_es2, q_ea0, q_ea1, q_ea2, q_ea3, q_ec1, line0, line1, line2, line3, line4, line5, line6, line7, line8, q_sk1, q_sk2, q_sk3, q_noX, q_hold1, q_hold2, q_frz1, id, q_goS, q_sv1, q_sv2, q_sv3, q_ub1, q_ub2, q_pv, parS, parS3, Nat.reduceLT, Nat.reduceLeDiff, q_andK, q_orK, q_chnK, q_ite1, q_ite2, q_ite3, q_ite4, q_ite5, decide_eq_true_eq, Bool.not_eq_true', decide_eq_false_iff_not, q_add, q_sub, q_lt, q_le, q_gt, q_ge, q_eqI, q_neI, q_len1, q_len2, q_int1, q_int2, q_min, q_max, q_tup1, q_tup2, q_lst1, q_lst2, q_subL, q_subT, q_slL, q_slT, argE, List.getElem?_cons_zero, List.getElem?_cons_succ, List.getElem?_nil, List.map_cons, List.map_nil, List.replicate, List.nil_append, List.cons_append, List.append_nil, Option.map_some, Option.map_none, if_true, if_false, reduceIte, List.length_cons, List.length_nil, Nat.reduceAdd, Nat.reduceSub, List.mapM_cons, List.mapM_nil, Option.bind_eq_bind, Option.bind_some, Option.pure_def, atI_lit, List.set_cons_zero, List.set_cons_succ, q_as1, q_as2, q_as3, q_as4, q_as5, q_wp0, q_wp1, q_kp0, q_kp1, q_ed0, q_ed1, Bool.false_eq_true, Bool.not_true, Bool.not_false, e1, e2, decide_true, decide_false, p, c1, c2, and_false, Bool.false_and]
      · have e1 : (((i / 9 : Nat) : Int) < ((i % 9 : Nat) : Int)) = False := eq_false (by omega)
        simp only [e_ev_var, e_ev_cI, e_ev_cS, e_ev_cN, e_ev_cB, e_ev_neg, e_ev_tup, e_ev_lst, e_ev_bin, e_ev_cmp, e_ev_chn, e_ev_and, e_ev_or, e_ev_not, e_ev_ite, e_ev_sub, e_ev_slc, e_ev_rev, e_ev_call, e_ev_bi, e_ev_isi, e_ev_index, e_ev_pop, e_ev_popAt, e_evs_nil, e_evs_cons, e_evAnd_one, e_evAnd_more, e_evOr_one, e_evOr_more, e_evO_no, e_evO_yes, e_evI_seq, e_evI_rng1, e_evI_rng2, e_evI_enm, e_evI_zp, e_xS_asg, e_xS_set, e_xS_par, e_xS_par3, e_xS_exp, e_xS_app, e_xS_ext, e_xS_setIx, e_xS_ret, e_xS_ife, e_xS_pas, e_xS_brk, e_xS_cnt, e_xS_nev, e_xsl_nil, e_xsl_cons, q_bind, q_toS, q_seq1, q_seq2, q_seq3, q_seq4, q_end1, q_end2, q_tst, q_pick, q_ret1, q_ret2, q_ret3, q_dv1, q_dv2, q_es1, q_es2, q_ea0, q_ea1, q_ea2, q_ea3, q_ec1, line0, line1, line2, line3, line4, line5, line6, line7, line8, q_sk1, q_sk2, q_sk3, q_noX, q_hold1, q_hold2, q_frz1, id, q_goS, q_sv1, q_sv2, q_sv3, q_ub1, q_ub2, q_pv, parS, parS3, Nat.reduceLT, Nat.reduceLeDiff, q_andK, q_orK, q_chnK, q_ite1, q_ite2, q_ite3, q_ite4, q_ite5, decide_eq_true_eq, Bool.not_eq_true', decide_eq_false_iff_not, q_add, q_sub, q_lt, q_le, q_gt, q_ge, q_eqI, q_neI, q_len1, q_len2, q_int1, q_int2, q_min, q_max, q_tup1, q_tup2, q_lst1, q_lst2, q_subL, q_subT, q_slL, q_slT, argE, List.getElem?_cons_zero, List.getElem?_cons_succ, List.getElem?_nil, List.map_cons, List.map_nil, List.replicate, List.nil_append, List.cons_append, List.append_nil, Option.map_some, Option.map_none, if_true, if_false, reduceIte, List.length_cons, List.length_nil, Nat.reduceAdd, Nat.reduceSub, List.mapM_cons, List.mapM_nil, Option.bind_eq_bind, Option.bind_some, Option.pure_def, atI_lit, List.set_cons_zero, List.set_cons_succ, q_as1, q_as2, q_as3, q_as4, q_as5, q_wp0, q_wp1, q_kp0, q_kp1, q_ed0, q_ed1, Bool.false_eq_true, Bool.not_true, Bool.not_false, e1, decide_true, decide_false, p, c1, false_and, Bool.false_and]
    · intro _
      exact ⟨.fz (tieD (i / 9, i % 9)), by simp only [e_ev_var, e_ev_cI, e_ev_cS, e_ev_cN, e_ev_cB, e_ev_neg, e_ev_tup, e_ev_lst, e_ev_bin, e_ev_cmp, e_ev_chn, e_ev_and, e_ev_or, e_ev_not, e_ev_ite, e_ev_sub, e_ev_slc, e_ev_rev, e_ev_call, e_ev_bi, e_ev_isi, e_ev_index, e_ev_pop, e_ev_popAt, e_evs_nil, e_evs_cons, e_evAnd_one, e_evAnd_more, e_evOr_one, e_evOr_more, e_evO_no, e_evO_yes, e_evI_seq, e_evI_rng1, e_evI_rng2, e_evI_enm, e_evI_zp, e_xS_asg, e_xS_set, e_xS_par, e_xS_par3, e_xS_exp, e_xS_app, e_xS_ext, e_xS_setIx, e_xS_ret, e_xS_ife, e_xS_pas, e_xS_brk, e_xS_cnt, e_xS_nev, e_xsl_nil, e_xsl_cons, q_bind, q_toS, q_seq1, q_seq2, q_seq3, q_seq4, q_end1, q_end2, q_tst, q_pick, q_ret1, q_ret2, q_ret3, q_dv1, q_dv2, q_es1, q_es2, q_ea0, q_ea1, q_ea2, q_ea3, q_ec1, line0, line1, line2, line3, line4, line5, line6, line7, line8, q_sk1, q_sk2, q_sk3, q_noX, q_hold1, q_hold2, q_frz1, id, q_goS, q_sv1, q_sv2, q_sv3, q_ub1, q_ub2, q_pv, parS, parS3, Nat.reduceLT, Nat.reduceLeDiff, q_andK, q_orK, q_chnK, q_ite1, q_ite2, q_ite3, q_ite4, q_ite5, decide_eq_true_eq, Bool.not_eq_true', decide_eq_false_iff_not, q_add, q_sub, q_lt, q_le, q_gt, q_ge, q_eqI, q_neI, q_len1, q_len2, q_int1, q_int2, q_min, q_max, q_tup1, q_tup2, q_lst1, q_lst2, q_subL, q_subT, q_slL, q_slT, argE, List.getElem?_cons_zero, List.getElem?_cons_succ, List.getElem?_nil, List.map_cons, List.map_nil, List.replicate, List.nil_append, List.cons_append, List.append_nil, Option.map_some, Option.map_none, if_true, if_false, reduceIte, List.length_cons, List.length_nil, Nat.reduceAdd, Nat.reduceSub, List.mapM_cons, List.mapM_nil, Option.bind_eq_bind, Option.bind_some, Option.pure_def, atI_lit, List.set_cons_zero, List.set_cons_succ, q_as1, q_as2, q_as3, q_as4, q_as5, q_wp0, q_wp1, q_kp0, q_kp1, q_ed0, q_ed1, Bool.false_eq_true, Bool.not_true, Bool.not_false, tieD], rfl⟩
end
end K37

set_option Elab.async false
set_option linter.all false
set_option maxRecDepth 100000
set_option maxHeartbeats 8000000
set_option exponentiation.threshold 1000
set_option autoImplicit false
namespace K37
open PySem PySem.Spec L2 DL
theorem lift_map {P : Tie → Prop} : ∀ {out : List PyData}, (∀ d, d ∈ out → ∃ t : Tie, d = tieD t ∧ P t) → ∃ l : List Tie, out = l.map tieD ∧ ∀ t, t ∈ l → P t
  | [], _ => ⟨[], rfl, by simp⟩
  | d :: out, h => by
    obtain ⟨t, rfl, ht⟩ := h d (by simp)
    obtain ⟨l, rfl, hl⟩ := lift_map (out := out) fun e he => h e (by simp [he])
    refine ⟨t :: l, rfl, ?_⟩
    intro u hu
    rw [List.mem_cons] at hu
    rcases hu with rfl | hu
    · exact ht
    · exact hl u hu
section
variable {fn : Fns} (x0 x2 x3 x4 x5 x6 x7 x8 x9 x10 x11 x12 x13 x14 x15 x16 x17 x18 : Option EV)
theorem lap9 (T : Tools fn) (s : Src) {n : Nat} {ts l : List Tie} (ht : ∀ t, t ∈ ts → t.1 < n ∧ t.2 < n) (few : ts.length ≤ 64) (hl : l.length ≤ 81) (hb : ∀ t, t ∈ l → t.1 < n ∧ t.2 < n) : ∃ (ts' : List Tie) (s' : Src), (∀ t, t ∈ ts' → t.1 < n ∧ t.2 < n) ∧ ts'.length ≤ 100 ∧
    xS fn (.set 13 (.tup (.cons (.var 3) (.cons (.bi .tuple (.cons (.bi .sorted (.cons (.bin .add (.sub (.var 5) (.cI 1)) (.bi .tuple (.cons (.slc (.call 9 (.cons (.var 1) (.cons (.var 12) .nil))) .no (.yes (.cI 2))) .nil))) .nil)) .nil)) .nil)))) [x0, some .src, x2, some (.fz (.int (n : Nat))), x4, some (.fz (webD n ts)), x6, x7, x8, x9, x10, x11, some (.lst (l.map tieD)), x13, x14, x15, x16, x17, x18] (some s) = .nx [x0, some .src, x2, some (.fz (.int (n : Nat))), x4, some (.fz (webD n ts)), x6, x7, x8, x9, x10, x11, some (.fz (.list (l.map tieD))), some (.fz (webD n ts')), x14, x15, x16, x17, x18] (some s') := by
  obtain ⟨out, s', hA, hperm⟩ := T.any s (l.map tieD) (by simp; omega)
  obtain ⟨l', rfl, hl'⟩ := lift_map (P := fun t => t.1 < n ∧ t.2 < n) (out := out) (by
    intro d hd
    have := hperm.mem_iff.mp hd
    rw [List.mem_map] at this
    obtain ⟨t, h, rfl⟩ := this
    exact ⟨t, rfl, hb t h⟩)
  have e1 : cutD (l'.map tieD) none (some 2) = (l'.take 2).map tieD := by
    have := cut_to (l'.map tieD) 2
    rw [List.map_take]
    exact this
  have hcat : binD .add (.tuple (ts.map tieD)) (.tuple ((l'.take 2).map tieD)) = some (.fz (.tuple ((ts ++ l'.take 2).map tieD))) := by
    rw [q_catT (line_ge (by simp; omega)), List.map_append]
  have hs := bi_sortT (ts ++ l'.take 2) (by simp; omega)
  have h4 := q_ea4 (env := [x0, some .src, x2, some (.fz (.int (n : Nat))), x4, some (.fz (webD n ts)), x6, x7, x8, x9, x10, x11, some (.lst (l.map tieD)), x13, x14, x15, x16, x17, x18]) (n := 12) (ds := l.map tieD) rfl []
  refine ⟨sortT (ts ++ l'.take 2), s', ?_, ?_, ?_⟩
  · intro t h
    have := (sortT_perm _).mem_iff.mp h
    rw [List.mem_append] at this
    rcases this with h | h
    · exact ht t h
    · exact hl' t (List.mem_of_mem_take h)
  · rw [(sortT_perm _).length_eq]
    simp; omega
  · simp only [e_ev_var, e_ev_cI, e_ev_cS, e_ev_cN, e_ev_cB, e_ev_neg, e_ev_tup, e_ev_lst, e_ev_bin, e_ev_cmp, e_ev_chn, e_ev_and, e_ev_or, e_ev_not, e_ev_ite, e_ev_sub, e_ev_slc, e_ev_rev, e_ev_call, e_ev_bi, e_ev_isi, e_ev_index, e_ev_pop, e_ev_popAt, e_evs_nil, e_evs_cons, e_evAnd_one, e_evAnd_more, e_evOr_one, e_evOr_more, e_evO_no, e_evO_yes, e_evI_seq, e_evI_rng1, e_evI_rng2, e_evI_enm, e_evI_zp, e_xS_asg, e_xS_set, e_xS_par, e_xS_par3, e_xS_exp, e_xS_app, e_xS_ext, e_xS_setIx, e_xS_ret, e_xS_ife, e_xS_pas, e_xS_brk, e_xS_cnt, e_xS_nev, e_xsl_nil, e_xsl_cons, q_bind, q_toS, q_seq1, q_seq2, q_seq3, q_seq4, q_end1, q_end2, q_tst, q_pick, q_ret1, q_ret2, q_ret3, q_dv1, q_dv2, q_es1, q_es2, q_ea0, q_ea1, q_ea2, q_ea3, q_ec1, line0, line1, line2, line3, line4, line5, line6, line7, line8, q_sk1, q_sk2, q_sk3, q_noX, q_hold1, q_hold2, q_frz1, id, q_goS, q_sv1, q_sv2, q_sv3, q_ub1, q_ub2, q_pv, parS, parS3, Nat.reduceLT, Nat.reduceLeDiff, q_andK, q_orK, q_chnK, q_ite1, q_ite2, q_ite3, q_ite4, q_ite5, decide_eq_true_eq, Bool.not_eq_true', decide_eq_false_iff_not, q_add, q_sub, q_lt, q_le, q_gt, q_ge, q_eqI, q_neI, q_len1, q_len2, q_int1, q_int2, q_min, q_max, q_tup1, q_tup2, q_lst1, q_lst2, q_subL, q_subT, q_slL, q_slT, argE, List.getElem?_cons_zero, List.getElem?_cons_succ, List.getElem?_nil, List.map_cons, List.map_nil, List.replicate, List.nil_append, List.cons_append, List.append_nil, Option.map_some, Option.map_none, if_true, if_false, reduceIte, List.length_cons, List.length_nil, Nat.reduceAdd, Nat.reduceSub, List.mapM_cons, List.mapM_nil, Option.bind_eq_bind, Option.bind_some, Option.pure_def, atI_lit, List.set_cons_zero, List.set_cons_succ, q_as1, q_as2, q_as3, q_as4, q_as5, q_wp0, q_wp1, q_kp0, q_kp1, q_ed0, q_ed1, Bool.false_eq_true, Bool.not_true, Bool.not_false, web1', h4, hA, e1, hcat, hs]
    rfl
/-! ### odd values -/
structure Bad (n : Nat) (d : PyData) : Prop where
  odd : Odd n d
  tm : ∃ k m, k ≤ 10 ∧ Tm k m d
theorem pt_len {n : Nat} {ps : List Pt} (o : PsOk n ps) : (ps.map pt).length = n := by rw [List.length_map, o.len]
theorem bad_none {n : Nat} : Bad n .none := ⟨.no rfl, 0, 25, by decide, Tm.none⟩
theorem bad_nil {n : Nat} (h : 1 ≤ n) : Bad n (.tuple []) := ⟨.len (by simp; omega), 1, 25, by decide, tm_nil⟩
theorem bad_list {n : Nat} {ps : List Pt} (o : PsOk n ps) : Bad n (.list (ps.map pt)) := ⟨.no rfl, 2, _, by decide, Tm.list (tm_pts o.sm)⟩
theorem bad_more {n : Nat} {ps : List Pt} (o : PsOk n ps) : Bad n (.tuple (ps.map pt ++ [.tuple [.int 99, .int 99]])) := by
  refine ⟨.len (by rw [List.length_append, pt_len o]; simp), 2, _, by decide, Tm.tuple (k := 1) (m := 100) ?_⟩
  intro d hd
  rw [List.mem_append, List.mem_singleton] at hd
  rcases hd with h | rfl
  · exact tm_pts o.sm d h
  · exact tm_pt (p := (99, 99)) ⟨by unfold Sm; omega, by unfold Sm; omega⟩
theorem cut_last (ds : List PyData) (h : 1 ≤ ds.length) : cutD ds none (some (-1)) = ds.take (ds.length - 1) := by
  unfold cutD HT.sIx
  simp
  congr 1
  omega
theorem bad_less {n : Nat} {ps : List Pt} (o : PsOk n ps) : Bad n (.tuple (cutD (ps.map pt) none (some (-1)))) := by
  have h := pt_len o
  have n1 := o.n1
  rw [cut_last _ (by omega)]
  refine ⟨.len (by rw [List.length_take]; omega), 2, _, by decide, Tm.tuple (k := 1) (m := 100) ?_⟩
  intro d hd
  exact tm_pts o.sm d (List.mem_of_mem_take hd)
theorem bad_put {n : Nat} {ps : List Pt} (o : PsOk n ps) {k : Nat} (hk : k < n) {d : PyData} (hp : pairB d = false) (t : Tm 2 1000 d) : Bad n (.tuple (putD (ps.map pt) k d)) := by
  have h := pt_len o
  refine ⟨.one (by rw [put_len (by omega), h]) ⟨d, by simp [putD], hp⟩, 3, _, by decide, Tm.tuple (k := 2) (m := 1000) ?_⟩
  intro e he
  unfold putD at he
  simp only [List.mem_append, List.mem_singleton] at he
  rcases he with (h | rfl) | h
  · exact (tm_pts o.sm e (List.mem_of_mem_take h)).mono (by decide) (by decide)
  · exact t
  · exact (tm_pts o.sm e (List.mem_of_mem_drop h)).mono (by decide) (by decide)
theorem bad_int {n : Nat} : Bad n (.int 7) := ⟨.no rfl, 0, 25, by decide, Tm.int (by unfold Sm; omega)⟩
theorem bad_str {n : Nat} : Bad n (.str "places") := ⟨.no rfl, 0, 25, by decide, Tm.str (by decide +kernel) (by decide +kernel)⟩
def ones : List PyData := [.tuple [.bool true, .int 0], .tuple [.int 0], .tuple [.int 0, .int 0, .int 0], .none, .tuple [.str "0", .int 0], .tuple [.int 0, .list [.int 1]]]
theorem ones_bad : ∀ d, d ∈ ones → pairB d = false ∧ Tm 2 1000 d := by
  intro d hd
  unfold ones at hd
  simp only [List.mem_cons, List.not_mem_nil, or_false] at hd
  rcases hd with rfl | rfl | rfl | rfl | rfl | rfl <;> exact ⟨rfl, by decide +kernel, by decide +kernel, by decide +kernel, by decide +kernel, by decide +kernel⟩
def odds (ps : List Pt) (k : Nat) (p : Pt) : List PyData := [.none, .tuple [], .list (ps.map pt), .tuple (ps.map pt ++ [.tuple [.int 99, .int 99]]), .tuple (cutD (ps.map pt) none (some (-1))), .tuple (putD (ps.map pt) k (.list [.int p.1, .int p.2])), .int 7, .str "places"]
theorem odds_bad {n : Nat} {ps : List Pt} (o : PsOk n ps) {k : Nat} (hk : k < n) {p : Pt} (hp : SmP p) : ∀ d, d ∈ odds ps k p ++ ones.map (fun e => .tuple (putD (ps.map pt) k e)) → Bad n d := by
  intro d hd
  rw [List.mem_append, List.mem_map] at hd
  rcases hd with hd | ⟨e, he, rfl⟩
  · unfold odds at hd
    simp only [List.mem_cons, List.not_mem_nil, or_false] at hd
    rcases hd with rfl | rfl | rfl | rfl | rfl | rfl | rfl | rfl
    · exact bad_none
    · exact bad_nil o.n1
    · exact bad_list o
    · exact bad_more o
    · exact bad_less o
    · refine bad_put o hk rfl ((Tm.list (k := 0) (m := 25) (ds := [.int p.1, .int p.2]) ?_).mono (by decide) (by show 2 * 25 + 2 * 2 + 3 ≤ 1000; decide))
      intro d hd
      simp only [List.mem_cons, List.not_mem_nil, or_false] at hd
      rcases hd with rfl | rfl
      · exact Tm.int hp.1
      · exact Tm.int hp.2
    · exact bad_int
    · exact bad_str
  · exact bad_put o hk (ones_bad e he).1 (ones_bad e he).2
end
end K37

set_option Elab.async false
set_option linter.all false
set_option maxRecDepth 100000
set_option maxHeartbeats 8000000
set_option exponentiation.threshold 1000
set_option autoImplicit false
namespace K37
open PySem PySem.Spec L2 DL
section
variable {fn : Fns} (x0 x2 x3 x4 x5 x6 x7 x8 x9 x10 x11 x12 x13 x14 x15 x16 x17 x18 : Option EV)
theorem lap11 (w : Wd) {ps : List Pt} {k : Nat} {p : Pt} (hl : ps.length ≤ 8) :
    xS fn (.set 16 (.lst (.cons .cN (.cons (.tup .nil) (.cons (.bi .list (.cons (.var 6) .nil)) (.cons (.bin .add (.var 6) (.tup (.cons (.tup (.cons (.cI 99) (.cons (.cI 99) .nil))) .nil))) (.cons (.slc (.var 6) .no (.yes (.neg (.cI 1)))) (.cons (.bin .add (.bin .add (.slc (.var 6) .no (.yes (.var 7))) (.tup (.cons (.bi .list (.cons (.var 8) .nil)) .nil))) (.slc (.var 6) (.yes (.bin .add (.var 7) (.cI 1))) .no)) (.cons (.cI 7) (.cons (.cS "places") .nil)))))))))) [x0, some .src, x2, x3, x4, x5, some (.fz (plD ps)), some (.fz (.int (k : Nat))), some (.fz (pt p)), x9, x10, x11, x12, x13, x14, x15, x16, x17, x18] w = .nx [x0, some .src, x2, x3, x4, x5, some (.fz (plD ps)), some (.fz (.int (k : Nat))), some (.fz (pt p)), x9, x10, x11, x12, x13, x14, x15, some (.lst (odds ps k p)), x17, x18] w := by
  have h := ev_put (fn := fn) (w := w) (X := .bi .list (.cons (.var 8) .nil)) (v := .lst [.int p.1, .int p.2]) (d := .list [.int p.1, .int p.2]) (env := [x0, some .src, x2, x3, x4, x5, some (.fz (plD ps)), some (.fz (.int (k : Nat))), some (.fz (pt p)), x9, x10, x11, x12, x13, x14, x15, x16, x17, x18]) hl rfl rfl (by simp only [e_ev_var, e_ev_cI, e_ev_cS, e_ev_cN, e_ev_cB, e_ev_neg, e_ev_tup, e_ev_lst, e_ev_bin, e_ev_cmp, e_ev_chn, e_ev_and, e_ev_or, e_ev_not, e_ev_ite, e_ev_sub, e_ev_slc, e_ev_rev, e_ev_call, e_ev_bi, e_ev_isi, e_ev_index, e_ev_pop, e_ev_popAt, e_evs_nil, e_evs_cons, e_evAnd_one, e_evAnd_more, e_evOr_one, e_evOr_more, e_evO_no, e_evO_yes, e_evI_seq, e_evI_rng1, e_evI_rng2, e_evI_enm, e_evI_zp, e_xS_asg, e_xS_set, e_xS_par, e_xS_par3, e_xS_exp, e_xS_app, e_xS_ext, e_xS_setIx, e_xS_ret, e_xS_ife, e_xS_pas, e_xS_brk, e_xS_cnt, e_xS_nev, e_xsl_nil, e_xsl_cons, q_bind, q_toS, q_seq1, q_seq2, q_seq3, q_seq4, q_end1, q_end2, q_tst, q_pick, q_ret1, q_ret2, q_ret3, q_dv1, q_dv2, q_es1, q_es2, q_ea0, q_ea1, q_ea2, q_ea3, q_ec1, line0, line1, line2, line3, line4, line5, line6, line7, line8, q_sk1, q_sk2, q_sk3, q_noX, q_hold1, q_hold2, q_frz1, id, q_goS, q_sv1, q_sv2, q_sv3, q_ub1, q_ub2, q_pv, parS, parS3, Nat.reduceLT, Nat.reduceLeDiff, q_andK, q_orK, q_chnK, q_ite1, q_ite2, q_ite3, q_ite4, q_ite5, decide_eq_true_eq, Bool.not_eq_true', decide_eq_false_iff_not, q_add, q_sub, q_lt, q_le, q_gt, q_ge, q_eqI, q_neI, q_len1, q_len2, q_int1, q_int2, q_min, q_max, q_tup1, q_tup2, q_lst1, q_lst2, q_subL, q_subT, q_slL, q_slT, argE, List.getElem?_cons_zero, List.getElem?_cons_succ, List.getElem?_nil, List.map_cons, List.map_nil, List.replicate, List.nil_append, List.cons_append, List.append_nil, Option.map_some, Option.map_none, if_true, if_false, reduceIte, List.length_cons, List.length_nil, Nat.reduceAdd, Nat.reduceSub, List.mapM_cons, List.mapM_nil, Option.bind_eq_bind, Option.bind_some, Option.pure_def, atI_lit, List.set_cons_zero, List.set_cons_succ, q_as1, q_as2, q_as3, q_as4, q_as5, q_wp0, q_wp1, q_kp0, q_kp1, q_ed0, q_ed1, Bool.false_eq_true, Bool.not_true, Bool.not_false, pt]) rfl
  have hc : binD .add (.tuple (ps.map pt)) (.tuple [.tuple [.int 99, .int 99]]) = some (.fz (.tuple (ps.map pt ++ [.tuple [.int 99, .int 99]]))) := q_catT (line_ge (by simp; omega))
  have a1 : ev fn (.bi .list (.cons (.var 6) .nil)) [x0, some .src, x2, x3, x4, x5, some (.fz (plD ps)), some (.fz (.int (k : Nat))), some (.fz (pt p)), x9, x10, x11, x12, x13, x14, x15, x16, x17, x18] w = .ok (.lst (ps.map pt)) [x0, some .src, x2, x3, x4, x5, some (.fz (plD ps)), some (.fz (.int (k : Nat))), some (.fz (pt p)), x9, x10, x11, x12, x13, x14, x15, x16, x17, x18] w := by simp only [e_ev_var, e_ev_cI, e_ev_cS, e_ev_cN, e_ev_cB, e_ev_neg, e_ev_tup, e_ev_lst, e_ev_bin, e_ev_cmp, e_ev_chn, e_ev_and, e_ev_or, e_ev_not, e_ev_ite, e_ev_sub, e_ev_slc, e_ev_rev, e_ev_call, e_ev_bi, e_ev_isi, e_ev_index, e_ev_pop, e_ev_popAt, e_evs_nil, e_evs_cons, e_evAnd_one, e_evAnd_more, e_evOr_one, e_evOr_more, e_evO_no, e_evO_yes, e_evI_seq, e_evI_rng1, e_evI_rng2, e_evI_enm, e_evI_zp, e_xS_asg, e_xS_set, e_xS_par, e_xS_par3, e_xS_exp, e_xS_app, e_xS_ext, e_xS_setIx, e_xS_ret, e_xS_ife, e_xS_pas, e_xS_brk, e_xS_cnt, e_xS_nev, e_xsl_nil, e_xsl_cons, q_bind, q_toS, q_seq1, q_seq2, q_seq3, q_seq4, q_end1, q_end2, q_tst, q_pick, q_ret1, q_ret2, q_ret3, q_dv1, q_dv2, q_es1, q_es2, q_ea0, q_ea1, q_ea2, q_ea3, q_ec1, line0, line1, line2, line3, line4, line5, line6, line7, line8, q_sk1, q_sk2, q_sk3, q_noX, q_hold1, q_hold2, q_frz1, id, q_goS, q_sv1, q_sv2, q_sv3, q_ub1, q_ub2, q_pv, parS, parS3, Nat.reduceLT, Nat.reduceLeDiff, q_andK, q_orK, q_chnK, q_ite1, q_ite2, q_ite3, q_ite4, q_ite5, decide_eq_true_eq, Bool.not_eq_true', decide_eq_false_iff_not, q_add, q_sub, q_lt, q_le, q_gt, q_ge, q_eqI, q_neI, q_len1, q_len2, q_int1, q_int2, q_min, q_max, q_tup1, q_tup2, q_lst1, q_lst2, q_subL, q_subT, q_slL, q_slT, argE, List.getElem?_cons_zero, List.getElem?_cons_succ, List.getElem?_nil, List.map_cons, List.map_nil, List.replicate, List.nil_append, List.cons_append, List.append_nil, Option.map_some, Option.map_none, if_true, if_false, reduceIte, List.length_cons, List.length_nil, Nat.reduceAdd, Nat.reduceSub, List.mapM_cons, List.mapM_nil, Option.bind_eq_bind, Option.bind_some, Option.pure_def, atI_lit, List.set_cons_zero, List.set_cons_succ, q_as1, q_as2, q_as3, q_as4, q_as5, q_wp0, q_wp1, q_kp0, q_kp1, q_ed0, q_ed1, Bool.false_eq_true, Bool.not_true, Bool.not_false, plD]
  have a2 : ev fn (.bin .add (.var 6) (.tup (.cons (.tup (.cons (.cI 99) (.cons (.cI 99) .nil))) .nil))) [x0, some .src, x2, x3, x4, x5, some (.fz (plD ps)), some (.fz (.int (k : Nat))), some (.fz (pt p)), x9, x10, x11, x12, x13, x14, x15, x16, x17, x18] w = .ok (.fz (.tuple (ps.map pt ++ [.tuple [.int 99, .int 99]]))) [x0, some .src, x2, x3, x4, x5, some (.fz (plD ps)), some (.fz (.int (k : Nat))), some (.fz (pt p)), x9, x10, x11, x12, x13, x14, x15, x16, x17, x18] w := by simp only [e_ev_var, e_ev_cI, e_ev_cS, e_ev_cN, e_ev_cB, e_ev_neg, e_ev_tup, e_ev_lst, e_ev_bin, e_ev_cmp, e_ev_chn, e_ev_and, e_ev_or, e_ev_not, e_ev_ite, e_ev_sub, e_ev_slc, e_ev_rev, e_ev_call, e_ev_bi, e_ev_isi, e_ev_index, e_ev_pop, e_ev_popAt, e_evs_nil, e_evs_cons, e_evAnd_one, e_evAnd_more, e_evOr_one, e_evOr_more, e_evO_no, e_evO_yes, e_evI_seq, e_evI_rng1, e_evI_rng2, e_evI_enm, e_evI_zp, e_xS_asg, e_xS_set, e_xS_par, e_xS_par3, e_xS_exp, e_xS_app, e_xS_ext, e_xS_setIx, e_xS_ret, e_xS_ife, e_xS_pas, e_xS_brk, e_xS_cnt, e_xS_nev, e_xsl_nil, e_xsl_cons, q_bind, q_toS, q_seq1, q_seq2, q_seq3, q_seq4, q_end1, q_end2, q_tst, q_pick, q_ret1, q_ret2, q_ret3, q_dv1, q_dv2, q_es1, q_es2, q_ea0, q_ea1, q_ea2, q_ea3, q_ec1, line0, line1, line2, line3, line4, line5, line6, line7, line8, q_sk1, q_sk2, q_sk3, q_noX, q_hold1, q_hold2, q_frz1, id, q_goS, q_sv1, q_sv2, q_sv3, q_ub1, q_ub2, q_pv, parS, parS3, Nat.reduceLT, Nat.reduceLeDiff, q_andK, q_orK, q_chnK, q_ite1, q_ite2, q_ite3, q_ite4, q_ite5, decide_eq_true_eq, Bool.not_eq_true', decide_eq_false_iff_not, q_add, q_sub, q_lt, q_le, q_gt, q_ge, q_eqI, q_neI, q_len1, q_len2, q_int1, q_int2, q_min, q_max, q_tup1, q_tup2, q_lst1, q_lst2, q_subL, q_subT, q_slL, q_slT, argE, List.getElem?_cons_zero, List.getElem?_cons_succ, List.getElem?_nil, List.map_cons, List.map_nil, List.replicate, List.nil_append, List.cons_append, List.append_nil, Option.map_some, Option.map_none, if_true, if_false, reduceIte, List.length_cons, List.length_nil, Nat.reduceAdd, Nat.reduceSub, List.mapM_cons, List.mapM_nil, Option.bind_eq_bind, Option.bind_some, Option.pure_def, atI_lit, List.set_cons_zero, List.set_cons_succ, q_as1, q_as2, q_as3, q_as4, q_as5, q_wp0, q_wp1, q_kp0, q_kp1, q_ed0, q_ed1, Bool.false_eq_true, Bool.not_true, Bool.not_false, plD, hc]
  have a3 : ev fn (.slc (.var 6) .no (.yes (.neg (.cI 1)))) [x0, some .src, x2, x3, x4, x5, some (.fz (plD ps)), some (.fz (.int (k : Nat))), some (.fz (pt p)), x9, x10, x11, x12, x13, x14, x15, x16, x17, x18] w = .ok (.fz (.tuple (cutD (ps.map pt) none (some (-1))))) [x0, some .src, x2, x3, x4, x5, some (.fz (plD ps)), some (.fz (.int (k : Nat))), some (.fz (pt p)), x9, x10, x11, x12, x13, x14, x15, x16, x17, x18] w := by simp only [e_ev_var, e_ev_cI, e_ev_cS, e_ev_cN, e_ev_cB, e_ev_neg, e_ev_tup, e_ev_lst, e_ev_bin, e_ev_cmp, e_ev_chn, e_ev_and, e_ev_or, e_ev_not, e_ev_ite, e_ev_sub, e_ev_slc, e_ev_rev, e_ev_call, e_ev_bi, e_ev_isi, e_ev_index, e_ev_pop, e_ev_popAt, e_evs_nil, e_evs_cons, e_evAnd_one, e_evAnd_more, e_evOr_one, e_evOr_more, e_evO_no, e_evO_yes, e_evI_seq, e_evI_rng1, e_evI_rng2, e_evI_enm, e_evI_zp, e_xS_asg, e_xS_set, e_xS_par, e_xS_par3, e_xS_exp, e_xS_app, e_xS_ext, e_xS_setIx, e_xS_ret, e_xS_ife, e_xS_pas, e_xS_brk, e_xS_cnt, e_xS_nev, e_xsl_nil, e_xsl_cons, q_bind, q_toS, q_seq1, q_seq2, q_seq3, q_seq4, q_end1, q_end2, q_tst, q_pick, q_ret1, q_ret2, q_ret3, q_dv1, q_dv2, q_es1, q_es2, q_ea0, q_ea1, q_ea2, q_ea3, q_ec1, line0, line1, line2, line3, line4, line5, line6, line7, line8, q_sk1, q_sk2, q_sk3, q_noX, q_hold1, q_hold2, q_frz1, id, q_goS, q_sv1, q_sv2, q_sv3, q_ub1, q_ub2, q_pv, parS, parS3, Nat.reduceLT, Nat.reduceLeDiff, q_andK, q_orK, q_chnK, q_ite1, q_ite2, q_ite3, q_ite4, q_ite5, decide_eq_true_eq, Bool.not_eq_true', decide_eq_false_iff_not, q_add, q_sub, q_lt, q_le, q_gt, q_ge, q_eqI, q_neI, q_len1, q_len2, q_int1, q_int2, q_min, q_max, q_tup1, q_tup2, q_lst1, q_lst2, q_subL, q_subT, q_slL, q_slT, argE, List.getElem?_cons_zero, List.getElem?_cons_succ, List.getElem?_nil, List.map_cons, List.map_nil, List.replicate, List.nil_append, List.cons_append, List.append_nil, Option.map_some, Option.map_none, if_true, if_false, reduceIte, List.length_cons, List.length_nil, Nat.reduceAdd, Nat.reduceSub, List.mapM_cons, List.mapM_nil, Option.bind_eq_bind, Option.bind_some, Option.pure_def, atI_lit, List.set_cons_zero, List.set_cons_succ, q_as1, q_as2, q_as3, q_as4, q_as5, q_wp0, q_wp1, q_kp0, q_kp1, q_ed0, q_ed1, Bool.false_eq_true, Bool.not_true, Bool.not_false, plD]
  rw [e_xS_set, e_ev_lst]
  simp only [e_evs_cons, e_evs_nil, a1, a2, a3, h, e_ev_cN, e_ev_cI, e_ev_cS, e_ev_tup, q_bind, q_ed0, q_ed1, q_es1, q_es2, List.length_nil, line0, if_true]
  have h8 : (8 ≤ sizeLine) = True := line8
  simp only [List.length_cons, List.length_nil, Nat.reduceAdd, h8, if_true, q_bind, q_toS, q_sv2, Nat.reduceLT, List.set_cons_succ, List.set_cons_zero, q_goS, odds]
theorem lapS12 (w : Wd) {ps : List Pt} {k : Nat} {p : Pt} (hl : ps.length ≤ 8) : ∃ y18 : Option EV,
    xS fn (.set 16 (.bin .add (.var 16) (.lc [("one", 18)] (.nm 18) (.seq (.tup (.cons (.tup (.cons (.cB true) (.cons (.cI 0) .nil))) (.cons (.tup (.cons (.cI 0) .nil)) (.cons (.tup (.cons (.cI 0) (.cons (.cI 0) (.cons (.cI 0) .nil)))) (.cons .cN (.cons (.tup (.cons (.cS "0") (.cons (.cI 0) .nil))) (.cons (.tup (.cons (.cI 0) (.cons (.lst (.cons (.cI 1) .nil)) .nil))) .nil)))))))) .nil (.bin .add (.bin .add (.slc (.var 6) .no (.yes (.var 7))) (.tup (.cons (.var 18) .nil))) (.slc (.var 6) (.yes (.bin .add (.var 7) (.cI 1))) .no))))) [x0, some .src, x2, x3, x4, x5, some (.fz (plD ps)), some (.fz (.int (k : Nat))), x8, x9, x10, x11, x12, x13, x14, x15, some (.lst (odds ps k p)), x17, x18] w = .nx [x0, some .src, x2, x3, x4, x5, some (.fz (plD ps)), some (.fz (.int (k : Nat))), x8, x9, x10, x11, x12, x13, x14, x15, some (.lst (odds ps k p ++ ones.map (fun e => .tuple (putD (ps.map pt) k e)))), x17, y18] w := by
  refine ⟨kp x18, ?_⟩
  have hones : evI fn (.seq (.tup (.cons (.tup (.cons (.cB true) (.cons (.cI 0) .nil))) (.cons (.tup (.cons (.cI 0) .nil)) (.cons (.tup (.cons (.cI 0) (.cons (.cI 0) (.cons (.cI 0) .nil)))) (.cons .cN (.cons (.tup (.cons (.cS "0") (.cons (.cI 0) .nil))) (.cons (.tup (.cons (.cI 0) (.cons (.lst (.cons (.cI 1) .nil)) .nil))) .nil)))))))) [x0, some .src, x2, x3, x4, x5, some (.fz (plD ps)), some (.fz (.int (k : Nat))), x8, x9, x10, x11, x12, x13, x14, x15, some (.lst (odds ps k p)), x17, x18] w = .ok ⟨ones, none, []⟩ [x0, some .src, x2, x3, x4, x5, some (.fz (plD ps)), some (.fz (.int (k : Nat))), x8, x9, x10, x11, x12, x13, x14, x15, some (.lst (odds ps k p)), x17, x18] w := by
    simp only [e_ev_var, e_ev_cI, e_ev_cS, e_ev_cN, e_ev_cB, e_ev_neg, e_ev_tup, e_ev_lst, e_ev_bin, e_ev_cmp, e_ev_chn, e_ev_and, e_ev_or, e_ev_not, e_ev_ite, e_ev_sub, e_ev_slc, e_ev_rev, e_ev_call, e_ev_bi, e_ev_isi, e_ev_index, e_ev_pop, e_ev_popAt, e_evs_nil, e_evs_cons, e_evAnd_one, e_evAnd_more, e_evOr_one, e_evOr_more, e_evO_no, e_evO_yes, e_evI_seq, e_evI_rng1, e_evI_rng2, e_evI_enm, e_evI_zp, e_xS_asg, e_xS_set, e_xS_par, e_xS_par3, e_xS_exp, e_xS_app, e_xS_ext, e_xS_setIx, e_xS_ret, e_xS_ife, e_xS_pas, e_xS_brk, e_xS_cnt, e_xS_nev, e_xsl_nil, e_xsl_cons, q_bind, q_toS, q_seq1, q_seq2, q_seq3, q_seq4, q_end1, q_end2, q_tst, q_pick, q_ret1, q_ret2, q_ret3, q_dv1, q_dv2, q_es1, q_es2, q_ea0, q_ea1, q_ea2, q_ea3, q_ec1, line0, line1, line2, line3, line4, line5, line6, line7, line8, q_sk1, q_sk2, q_sk3, q_noX, q_hold1, q_hold2, q_frz1, id, q_goS, q_sv1, q_sv2, q_sv3, q_ub1, q_ub2, q_pv, parS, parS3, Nat.reduceLT, Nat.reduceLeDiff, q_andK, q_orK, q_chnK, q_ite1, q_ite2, q_ite3, q_ite4, q_ite5, decide_eq_true_eq, Bool.not_eq_true', decide_eq_false_iff_not, q_add, q_sub, q_lt, q_le, q_gt, q_ge, q_eqI, q_neI, q_len1, q_len2, q_int1, q_int2, q_min, q_max, q_tup1, q_tup2, q_lst1, q_lst2, q_subL, q_subT, q_slL, q_slT, argE, List.getElem?_cons_zero, List.getElem?_cons_succ, List.getElem?_nil, List.map_cons, List.map_nil, List.replicate, List.nil_append, List.cons_append, List.append_nil, Option.map_some, Option.map_none, if_true, if_false, reduceIte, List.length_cons, List.length_nil, Nat.reduceAdd, Nat.reduceSub, List.mapM_cons, List.mapM_nil, Option.bind_eq_bind, Option.bind_some, Option.pure_def, atI_lit, List.set_cons_zero, List.set_cons_succ, q_as1, q_as2, q_as3, q_as4, q_as5, q_wp0, q_wp1, q_kp0, q_kp1, q_ed0, q_ed1, Bool.false_eq_true, Bool.not_true, Bool.not_false, ones]
  have hL := ev_map (fn := fn) (own := [("one", 18)]) (tg := .nm 18) (env := [x0, some .src, x2, x3, x4, x5, some (.fz (plD ps)), some (.fz (.int (k : Nat))), x8, x9, x10, x11, x12, x13, x14, x15, some (.lst (odds ps k p)), x17, x18]) (e1 := [x0, some .src, x2, x3, x4, x5, some (.fz (plD ps)), some (.fz (.int (k : Nat))), x8, x9, x10, x11, x12, x13, x14, x15, some (.lst (odds ps k p)), x17, x18]) (w := w)
    (elt := .bin .add (.bin .add (.slc (.var 6) .no (.yes (.var 7))) (.tup (.cons (.var 18) .nil))) (.slc (.var 6) (.yes (.bin .add (.var 7) (.cI 1))) .no)) (fun e => .tuple (putD (ps.map pt) k e)) hones (line_ge (by show 6 ≤ _; decide)) trivial ?_
  · have hdv : dval ([x0, some .src, x2, x3, x4, x5, some (.fz (plD ps)), some (.fz (.int (k : Nat))), x8, x9, x10, x11, x12, x13, x14, x15, some (.lst (odds ps k p)), x17, kp x18]) (.bor 16) = some (.list (odds ps k p)) := rfl
    have hcat : binD .add (.list (odds ps k p)) (.list (ones.map fun e => .tuple (putD (ps.map pt) k e))) = some (.lst (odds ps k p ++ ones.map fun e => .tuple (putD (ps.map pt) k e))) := q_catL (line_ge (by show 14 ≤ _; decide))
    have hke : keepE ([x0, some .src, x2, x3, x4, x5, some (.fz (plD ps)), some (.fz (.int (k : Nat))), x8, x9, x10, x11, x12, x13, x14, x15, some (.lst (odds ps k p)), x17, x18]) (wipeE ([x0, some .src, x2, x3, x4, x5, some (.fz (plD ps)), some (.fz (.int (k : Nat))), x8, x9, x10, x11, x12, x13, x14, x15, some (.lst (odds ps k p)), x17, x18]) (([("one", 18)] : List (Str × Nat)).map (·.2))) (([("one", 18)] : List (Str × Nat)).map (·.2)) = [x0, some .src, x2, x3, x4, x5, some (.fz (plD ps)), some (.fz (.int (k : Nat))), x8, x9, x10, x11, x12, x13, x14, x15, some (.lst (odds ps k p)), x17, kp x18] := rfl
    rw [hke] at hL
    rw [e_xS_set, e_ev_bin, e_ev_var]
    simp only [List.getElem?_cons_succ, List.getElem?_cons_zero, q_bind, hL, hdv, q_dv2, hcat, q_pick, q_toS, q_sv2, List.length_cons, List.length_nil, Nat.reduceAdd, Nat.reduceLT, if_true, List.set_cons_succ, List.set_cons_zero, q_goS]
  · intro d hd
    exact ⟨[x0, some .src, x2, x3, x4, x5, some (.fz (plD ps)), some (.fz (.int (k : Nat))), x8, x9, x10, x11, x12, x13, x14, x15, some (.lst (odds ps k p)), x17, some (.fz d)], _, rfl, ev_put (fn := fn) (w := w) (X := .var 18) (v := .fz d) (d := d) hl rfl rfl (by simp only [e_ev_var, e_ev_cI, e_ev_cS, e_ev_cN, e_ev_cB, e_ev_neg, e_ev_tup, e_ev_lst, e_ev_bin, e_ev_cmp, e_ev_chn, e_ev_and, e_ev_or, e_ev_not, e_ev_ite, e_ev_sub, e_ev_slc, e_ev_rev, e_ev_call, e_ev_bi, e_ev_isi, e_ev_index, e_ev_pop, e_ev_popAt, e_evs_nil, e_evs_cons, e_evAnd_one, e_evAnd_more, e_evOr_one, e_evOr_more, e_evO_no, e_evO_yes, e_evI_seq, e_evI_rng1, e_evI_rng2, e_evI_enm, e_evI_zp, e_xS_asg, e_xS_set, e_xS_par, e_xS_par3, e_xS_exp, e_xS_app, e_xS_ext, e_xS_setIx, e_xS_ret, e_xS_ife, e_xS_pas, e_xS_brk, e_xS_cnt, e_xS_nev, e_xsl_nil, e_xsl_cons, q_bind, q_toS, q_seq1, q_seq2, q_seq3, q_seq4, q_end1, q_end2, q_tst, q_pick, q_ret1, q_ret2, q_ret3, q_dv1, q_dv2, q_es1, q_es2, q_ea0, q_ea1, q_ea2, q_ea3, q_ec1, line0, line1, line2, line3, line4, line5, line6, line7, line8, q_sk1, q_sk2, q_sk3, q_noX, q_hold1, q_hold2, q_frz1, id, q_goS, q_sv1, q_sv2, q_sv3, q_ub1, q_ub2, q_pv, parS, parS3, Nat.reduceLT, Nat.reduceLeDiff, q_andK, q_orK, q_chnK, q_ite1, q_ite2, q_ite3, q_ite4, q_ite5, decide_eq_true_eq, Bool.not_eq_true', decide_eq_false_iff_not, q_add, q_sub, q_lt, q_le, q_gt, q_ge, q_eqI, q_neI, q_len1, q_len2, q_int1, q_int2, q_min, q_max, q_tup1, q_tup2, q_lst1, q_lst2, q_subL, q_subT, q_slL, q_slT, argE, List.getElem?_cons_zero, List.getElem?_cons_succ, List.getElem?_nil, List.map_cons, List.map_nil, List.replicate, List.nil_append, List.cons_append, List.append_nil, Option.map_some, Option.map_none, if_true, if_false, reduceIte, List.length_cons, List.length_nil, Nat.reduceAdd, Nat.reduceSub, List.mapM_cons, List.mapM_nil, Option.bind_eq_bind, Option.bind_some, Option.pure_def, atI_lit, List.set_cons_zero, List.set_cons_succ, q_as1, q_as2, q_as3, q_as4, q_as5, q_wp0, q_wp1, q_kp0, q_kp1, q_ed0, q_ed1, Bool.false_eq_true, Bool.not_true, Bool.not_false]) rfl, rfl, rfl⟩
theorem lap13 (T : Tools fn) (w : Wd) {n : Nat} {ts : List Tie} (hn : 1 ≤ n ∧ n ≤ 63) {ds : List PyData} (hb : ∀ d, d ∈ ds → Bad n d) (hl : ds.length ≤ 100) : ∃ y15 : Option EV,
    xS fn (.ife (.or (.cons (.bi .any (.cons (.lc [("value", 15)] (.nm 15) (.seq (.var 16)) (.cons (.cmp .ne (.var 15) (.tup .nil)) .nil) (.cmp .ne (.call 7 (.cons (.var 5) (.cons (.var 15) .nil))) (.tup (.cons (.cS "form") .nil)))) .nil)) (.cons (.cmp .ne (.call 7 (.cons (.var 5) (.cons (.tup .nil) .nil))) (.tup (.cons (.cS "form") .nil))) .nil))) (.cons (.ret (.cB false)) .nil) .nil) [x0, some .src, x2, x3, x4, some (.fz (webD n ts)), x6, x7, x8, x9, x10, x11, x12, x13, x14, x15, some (.lst ds), x17, x18] w = .nx [x0, some .src, x2, x3, x4, some (.fz (webD n ts)), x6, x7, x8, x9, x10, x11, x12, x13, x14, y15, some (.lst ds), x17, x18] w := by
  refine ⟨kp x15, ?_⟩
  have tmf : Tm 2 1000 formD := by exact ⟨by decide +kernel, by decide +kernel, by decide +kernel, by decide +kernel, by decide +kernel⟩
  have nef : cmpD .ne formD (.tuple [.str "form"]) = some false := by
    rw [show (PyData.tuple [.str "form"]) = formD from rfl, q_ne (okEq_tm tmf tmf (by decide) (by decide))]
    decide +kernel
  have hL := ev_filterM (γ := PyData) (g := id) (fn := fn) (own := [("value", 15)]) (tg := .nm 15) (it := .seq (.var 16)) (c := .cmp .ne (.var 15) (.tup .nil)) (elt := .cmp .ne (.call 7 (.cons (.var 5) (.cons (.var 15) .nil))) (.tup (.cons (.cS "form") .nil)))
    (env := [x0, some .src, x2, x3, x4, some (.fz (webD n ts)), x6, x7, x8, x9, x10, x11, x12, x13, x14, x15, some (.lst ds), x17, x18]) (e1 := [x0, some .src, x2, x3, x4, some (.fz (webD n ts)), x6, x7, x8, x9, x10, x11, x12, x13, x14, x15, some (.lst ds), x17, x18]) (w := w) (at_ := some 16) (raw := ds) ds (fun d => !PyData.eqv d (.tuple [])) (fun _ => .bool false) ?_ (line_ge (by omega)) (by rfl) ?_
  · have hke : keepE ([x0, some .src, x2, x3, x4, some (.fz (webD n ts)), x6, x7, x8, x9, x10, x11, x12, x13, x14, x15, some (.lst ds), x17, x18]) (wipeE ([x0, some .src, x2, x3, x4, some (.fz (webD n ts)), x6, x7, x8, x9, x10, x11, x12, x13, x14, x15, some (.lst ds), x17, x18]) (([("value", 15)] : List (Str × Nat)).map (·.2))) (([("value", 15)] : List (Str × Nat)).map (·.2)) = [x0, some .src, x2, x3, x4, some (.fz (webD n ts)), x6, x7, x8, x9, x10, x11, x12, x13, x14, kp x15, some (.lst ds), x17, x18] := rfl
    rw [hke] at hL
    have hany := q_any _ (bools_map (fun _ => false) (ds.filter fun d => !PyData.eqv d (.tuple [])))
    have hf : ∀ l : List PyData, (l.map fun _ => false).any id = false := by
      intro l
      induction l with
      | nil => rfl
      | cons a r ih => rw [List.map_cons, List.any_cons, ih]; rfl
    rw [hf] at hany
    have h7 := T.odd w n ts hn.2 _ (bad_nil hn.1).odd
    simp only [e_ev_var, e_ev_cI, e_ev_cS, e_ev_cN, e_ev_cB, e_ev_neg, e_ev_tup, e_ev_lst, e_ev_bin, e_ev_cmp, e_ev_chn, e_ev_and, e_ev_or, e_ev_not, e_ev_ite, e_ev_sub, e_ev_slc, e_ev_rev, e_ev_call, e_ev_bi, e_ev_isi, e_ev_index, e_ev_pop, e_ev_popAt, e_evs_nil, e_evs_cons, e_evAnd_one, e_evAnd_more, e_evOr_one, e_evOr_more, e_evO_no, e_evO_yes, e_evI_seq, e_evI_rng1, e_evI_rng2, e_evI_enm, e_evI_zp, e_xS_asg, e_xS_set, e_xS_par, e_xS_par3, e_xS_exp, e_xS_app, e_xS_ext, e_xS_setIx, e_xS_ret, e_xS_ife, e_xS_pas, e_xS_brk, e_xS_cnt, e_xS_nev, e_xsl_nil, e_xsl_cons, q_bind, q_toS, q_seq1, q_seq2, q_seq3, q_seq4, q_end1, q_end2, q_tst, q_pick, q_ret1, q_ret2, q_ret3, q_dv1, q_dv2, q_es1, q_es2, q_ea0, q_ea1, q_ea2, q_ea3, q_ec1, line0, line1, line2, line3, line4, line5, line6, line7, line8, q_sk1, q_sk2, q_sk3, q_noX, q_hold1, q_hold2, q_frz1, id, q_goS, q_sv1, q_sv2, q_sv3, q_ub1, q_ub2, q_pv, parS, parS3, Nat.reduceLT, Nat.reduceLeDiff, q_andK, q_orK, q_chnK, q_ite1, q_ite2, q_ite3, q_ite4, q_ite5, decide_eq_true_eq, Bool.not_eq_true', decide_eq_false_iff_not, q_add, q_sub, q_lt, q_le, q_gt, q_ge, q_eqI, q_neI, q_len1, q_len2, q_int1, q_int2, q_min, q_max, q_tup1, q_tup2, q_lst1, q_lst2, q_subL, q_subT, q_slL, q_slT, argE, List.getElem?_cons_zero, List.getElem?_cons_succ, List.getElem?_nil, List.map_cons, List.map_nil, List.replicate, List.nil_append, List.cons_append, List.append_nil, Option.map_some, Option.map_none, if_true, if_false, reduceIte, List.length_cons, List.length_nil, Nat.reduceAdd, Nat.reduceSub, List.mapM_cons, List.mapM_nil, Option.bind_eq_bind, Option.bind_some, Option.pure_def, atI_lit, List.set_cons_zero, List.set_cons_succ, q_as1, q_as2, q_as3, q_as4, q_as5, q_wp0, q_wp1, q_kp0, q_kp1, q_ed0, q_ed1, Bool.false_eq_true, Bool.not_true, Bool.not_false, hL, hany, h7, nef]
  · rw [e_evI_seq, e_ev_var]
    rw [List.map_id]
    rfl
  · intro d hd
    have bd := hb d hd
    obtain ⟨k, m, hk, tm⟩ := bd.tm
    have hne : cmpD .ne d (.tuple []) = some (!PyData.eqv d (.tuple [])) := q_ne (okEq_tm tm tm_nil (by omega) (by decide))
    have h7 := T.odd w n ts hn.2 _ bd.odd
    refine ⟨[x0, some .src, x2, x3, x4, some (.fz (webD n ts)), x6, x7, x8, x9, x10, x11, x12, x13, x14, some (.fz d), some (.lst ds), x17, x18], rfl, ?_, ?_, rfl⟩
    · simp only [e_ev_var, e_ev_cI, e_ev_cS, e_ev_cN, e_ev_cB, e_ev_neg, e_ev_tup, e_ev_lst, e_ev_bin, e_ev_cmp, e_ev_chn, e_ev_and, e_ev_or, e_ev_not, e_ev_ite, e_ev_sub, e_ev_slc, e_ev_rev, e_ev_call, e_ev_bi, e_ev_isi, e_ev_index, e_ev_pop, e_ev_popAt, e_evs_nil, e_evs_cons, e_evAnd_one, e_evAnd_more, e_evOr_one, e_evOr_more, e_evO_no, e_evO_yes, e_evI_seq, e_evI_rng1, e_evI_rng2, e_evI_enm, e_evI_zp, e_xS_asg, e_xS_set, e_xS_par, e_xS_par3, e_xS_exp, e_xS_app, e_xS_ext, e_xS_setIx, e_xS_ret, e_xS_ife, e_xS_pas, e_xS_brk, e_xS_cnt, e_xS_nev, e_xsl_nil, e_xsl_cons, q_bind, q_toS, q_seq1, q_seq2, q_seq3, q_seq4, q_end1, q_end2, q_tst, q_pick, q_ret1, q_ret2, q_ret3, q_dv1, q_dv2, q_es1, q_es2, q_ea0, q_ea1, q_ea2, q_ea3, q_ec1, line0, line1, line2, line3, line4, line5, line6, line7, line8, q_sk1, q_sk2, q_sk3, q_noX, q_hold1, q_hold2, q_frz1, id, q_goS, q_sv1, q_sv2, q_sv3, q_ub1, q_ub2, q_pv, parS, parS3, Nat.reduceLT, Nat.reduceLeDiff, q_andK, q_orK, q_chnK, q_ite1, q_ite2, q_ite3, q_ite4, q_ite5, decide_eq_true_eq, Bool.not_eq_true', decide_eq_false_iff_not, q_add, q_sub, q_lt, q_le, q_gt, q_ge, q_eqI, q_neI, q_len1, q_len2, q_int1, q_int2, q_min, q_max, q_tup1, q_tup2, q_lst1, q_lst2, q_subL, q_subT, q_slL, q_slT, argE, List.getElem?_cons_zero, List.getElem?_cons_succ, List.getElem?_nil, List.map_cons, List.map_nil, List.replicate, List.nil_append, List.cons_append, List.append_nil, Option.map_some, Option.map_none, if_true, if_false, reduceIte, List.length_cons, List.length_nil, Nat.reduceAdd, Nat.reduceSub, List.mapM_cons, List.mapM_nil, Option.bind_eq_bind, Option.bind_some, Option.pure_def, atI_lit, List.set_cons_zero, List.set_cons_succ, q_as1, q_as2, q_as3, q_as4, q_as5, q_wp0, q_wp1, q_kp0, q_kp1, q_ed0, q_ed1, Bool.false_eq_true, Bool.not_true, Bool.not_false, hne]
    · intro _
      refine ⟨.fz (.bool false), ?_, rfl⟩
      simp only [e_ev_var, e_ev_cI, e_ev_cS, e_ev_cN, e_ev_cB, e_ev_neg, e_ev_tup, e_ev_lst, e_ev_bin, e_ev_cmp, e_ev_chn, e_ev_and, e_ev_or, e_ev_not, e_ev_ite, e_ev_sub, e_ev_slc, e_ev_rev, e_ev_call, e_ev_bi, e_ev_isi, e_ev_index, e_ev_pop, e_ev_popAt, e_evs_nil, e_evs_cons, e_evAnd_one, e_evAnd_more, e_evOr_one, e_evOr_more, e_evO_no, e_evO_yes, e_evI_seq, e_evI_rng1, e_evI_rng2, e_evI_enm, e_evI_zp, e_xS_asg, e_xS_set, e_xS_par, e_xS_par3, e_xS_exp, e_xS_app, e_xS_ext, e_xS_setIx, e_xS_ret, e_xS_ife, e_xS_pas, e_xS_brk, e_xS_cnt, e_xS_nev, e_xsl_nil, e_xsl_cons, q_bind, q_toS, q_seq1, q_seq2, q_seq3, q_seq4, q_end1, q_end2, q_tst, q_pick, q_ret1, q_ret2, q_ret3, q_dv1, q_dv2, q_es1, q_es2, q_ea0, q_ea1, q_ea2, q_ea3, q_ec1, line0, line1, line2, line3, line4, line5, line6, line7, line8, q_sk1, q_sk2, q_sk3, q_noX, q_hold1, q_hold2, q_frz1, id, q_goS, q_sv1, q_sv2, q_sv3, q_ub1, q_ub2, q_pv, parS, parS3, Nat.reduceLT, Nat.reduceLeDiff, q_andK, q_orK, q_chnK, q_ite1, q_ite2, q_ite3, q_ite4, q_ite5, decide_eq_true_eq, Bool.not_eq_true', decide_eq_false_iff_not, q_add, q_sub, q_lt, q_le, q_gt, q_ge, q_eqI, q_neI, q_len1, q_len2, q_int1, q_int2, q_min, q_max, q_tup1, q_tup2, q_lst1, q_lst2, q_subL, q_subT, q_slL, q_slT, argE, List.getElem?_cons_zero, List.getElem?_cons_succ, List.getElem?_nil, List.map_cons, List.map_nil, List.replicate, List.nil_append, List.cons_append, List.append_nil, Option.map_some, Option.map_none, if_true, if_false, reduceIte, List.length_cons, List.length_nil, Nat.reduceAdd, Nat.reduceSub, List.mapM_cons, List.mapM_nil, Option.bind_eq_bind, Option.bind_some, Option.pure_def, atI_lit, List.set_cons_zero, List.set_cons_succ, q_as1, q_as2, q_as3, q_as4, q_as5, q_wp0, q_wp1, q_kp0, q_kp1, q_ed0, q_ed1, Bool.false_eq_true, Bool.not_true, Bool.not_false, h7, nef]
end
end K37

set_option Elab.async false
set_option linter.all false
set_option maxRecDepth 100000
set_option maxHeartbeats 8000000
set_option exponentiation.threshold 1000
set_option autoImplicit false
namespace K37
open PySem PySem.Spec L2 DL
theorem lap_all {fn : Fns} (T : Tools fn) (s : Src) (x0 x2 x3 x4 x5 x6 x7 x8 x9 x10 x11 x12 x13 x14 x15 x16 x17 x18 : Option EV) :
    ∃ (e2 : Nv) (s' : Src), xsl fn (.cons (.asg (.tp (.cons (.nm 3) (.cons (.nm 4) .nil))) (.tup (.cons (.bin .add (.cI 1) (.call 8 (.cons (.var 1) (.cons (.cI 8) .nil)))) (.cons (.sub (.lst (.cons (.cI 3) (.cons (.cI 4) (.cons (.cI 6) (.cons (.cI 9) (.cons (.cI 1000) .nil)))))) (.call 8 (.cons (.var 1) (.cons (.cI 5) .nil)))) .nil)))) (.cons (.asg (.tp (.cons (.nm 5) (.cons (.nm 6) .nil))) (.call 15 (.cons (.var 1) (.cons (.var 3) (.cons (.var 4) .nil))))) (.cons (.set 3 (.sub (.var 5) (.cI 0))) (.cons (.ife (.or (.cons (.cmp .notn (.call 7 (.cons (.var 5) (.cons (.var 6) .nil))) .cN) (.cons (.cmp .ne (.call 4 (.cons (.var 5) (.cons (.var 6) .nil))) (.tup .nil)) .nil))) (.cons (.ret (.cB false)) .nil) .nil) (.cons (.set 7 (.call 8 (.cons (.var 1) (.cons (.var 3) .nil)))) (.cons (.set 8 (.tup (.cons (.call 8 (.cons (.var 1) (.cons (.var 4) .nil))) (.cons (.call 8 (.cons (.var 1) (.cons (.var 4) .nil))) .nil)))) (.cons (.ife (.and (.cons (.cmp .eq (.call 8 (.cons (.var 1) (.cons (.cI 3) .nil))) (.cI 0)) (.cons (.cmp .ne (.sub (.var 5) (.cI 1)) (.tup .nil)) .nil))) (.cons (.asg (.tp (.cons (.nm 9) (.cons (.nm 10) .nil))) (.sub (.sub (.var 5) (.cI 1)) (.call 8 (.cons (.var 1) (.cons (.bi .len (.cons (.sub (.var 5) (.cI 1)) .nil)) .nil))))) (.cons (.set 8 (.tup (.cons (.bin .fdiv (.bin .add (.sub (.sub (.var 6) (.var 9)) (.cI 0)) (.sub (.sub (.var 6) (.var 10)) (.cI 0))) (.cI 2)) (.cons (.bin .fdiv (.bin .add (.sub (.sub (.var 6) (.var 9)) (.cI 1)) (.sub (.sub (.var 6) (.var 10)) (.cI 1))) (.cI 2)) .nil)))) .nil)) .nil) (.cons (.set 11 (.bin .add (.bin .add (.slc (.var 6) .no (.yes (.var 7))) (.tup (.cons (.var 8) .nil))) (.slc (.var 6) (.yes (.bin .add (.var 7) (.cI 1))) .no))) (.cons (.set 12 (.lc [("a", 9), ("b", 10)] (.tp (.cons (.nm 9) (.cons (.nm 10) .nil))) (.seq (.lc [("i", 17)] (.nm 17) (.rng1 (.cI 81)) .nil (.tup (.cons (.bin .fdiv (.var 17) (.cI 9)) (.cons (.bin .mod (.var 17) (.cI 9)) .nil))))) (.cons (.and (.cons (.chn .lt .lt (.var 9) (.var 10) (.var 3)) (.cons (.cmp .notin (.tup (.cons (.var 9) (.cons (.var 10) .nil))) (.sub (.var 5) (.cI 1))) .nil))) .nil) (.tup (.cons (.var 9) (.cons (.var 10) .nil))))) (.cons (.set 13 (.tup (.cons (.var 3) (.cons (.bi .tuple (.cons (.bi .sorted (.cons (.bin .add (.sub (.var 5) (.cI 1)) (.bi .tuple (.cons (.slc (.call 9 (.cons (.var 1) (.cons (.var 12) .nil))) .no (.yes (.cI 2))) .nil))) .nil)) .nil)) .nil)))) (.cons (.for_ (.tp (.cons (.nm 14) (.cons (.nm 15) .nil))) (.seq (.tup (.cons (.tup (.cons (.var 5) (.cons (.var 11) .nil))) (.cons (.tup (.cons (.var 13) (.cons (.var 6) .nil))) (.cons (.tup (.cons (.var 13) (.cons (.var 11) .nil))) .nil))))) (.cons (.ife (.cmp .ne (.bi .repr (.cons (.call 7 (.cons (.var 14) (.cons (.var 15) .nil))) .nil)) (.bi .repr (.cons (.call 14 (.cons (.var 14) (.cons (.var 15) .nil))) .nil))) (.cons (.ret (.cB false)) .nil) .nil) (.cons (.ife (.cmp .ne (.bi .repr (.cons (.call 4 (.cons (.var 14) (.cons (.var 15) .nil))) .nil)) (.bi .repr (.cons (.bi .tuple (.cons (.call 13 (.cons (.var 14) (.cons (.var 15) .nil))) .nil)) .nil))) (.cons (.ret (.cB false)) .nil) .nil) .nil))) (.cons (.set 16 (.lst (.cons .cN (.cons (.tup .nil) (.cons (.bi .list (.cons (.var 6) .nil)) (.cons (.bin .add (.var 6) (.tup (.cons (.tup (.cons (.cI 99) (.cons (.cI 99) .nil))) .nil))) (.cons (.slc (.var 6) .no (.yes (.neg (.cI 1)))) (.cons (.bin .add (.bin .add (.slc (.var 6) .no (.yes (.var 7))) (.tup (.cons (.bi .list (.cons (.var 8) .nil)) .nil))) (.slc (.var 6) (.yes (.bin .add (.var 7) (.cI 1))) .no)) (.cons (.cI 7) (.cons (.cS "places") .nil)))))))))) (.cons (.set 16 (.bin .add (.var 16) (.lc [("one", 18)] (.nm 18) (.seq (.tup (.cons (.tup (.cons (.cB true) (.cons (.cI 0) .nil))) (.cons (.tup (.cons (.cI 0) .nil)) (.cons (.tup (.cons (.cI 0) (.cons (.cI 0) (.cons (.cI 0) .nil)))) (.cons .cN (.cons (.tup (.cons (.cS "0") (.cons (.cI 0) .nil))) (.cons (.tup (.cons (.cI 0) (.cons (.lst (.cons (.cI 1) .nil)) .nil))) .nil)))))))) .nil (.bin .add (.bin .add (.slc (.var 6) .no (.yes (.var 7))) (.tup (.cons (.var 18) .nil))) (.slc (.var 6) (.yes (.bin .add (.var 7) (.cI 1))) .no))))) (.cons (.ife (.or (.cons (.bi .any (.cons (.lc [("value", 15)] (.nm 15) (.seq (.var 16)) (.cons (.cmp .ne (.var 15) (.tup .nil)) .nil) (.cmp .ne (.call 7 (.cons (.var 5) (.cons (.var 15) .nil))) (.tup (.cons (.cS "form") .nil)))) .nil)) (.cons (.cmp .ne (.call 7 (.cons (.var 5) (.cons (.tup .nil) .nil))) (.tup (.cons (.cS "form") .nil))) .nil))) (.cons (.ret (.cB false)) .nil) .nil) .nil)))))))))))))) [x0, some .src, x2, x3, x4, x5, x6, x7, x8, x9, x10, x11, x12, x13, x14, x15, x16, x17, x18] (some s) = .nx e2 (some s') ∧ ∃ x0 x2 x3 x4 x5 x6 x7 x8 x9 x10 x11 x12 x13 x14 x15 x16 x17 x18 : Option EV, e2 = [x0, some .src, x2, x3, x4, x5, x6, x7, x8, x9, x10, x11, x12, x13, x14, x15, x16, x17, x18] := by
  obtain ⟨n0, most, s1, h0, hn0, hm⟩ := lap0 T x0 x2 x3 x4 x5 x6 x7 x8 x9 x10 x11 x12 x13 x14 x15 x16 x17 x18 s
  obtain ⟨n, ts, ps, s2, c, h12⟩ := lap12 T x0 x2 x5 x6 x7 x8 x9 x10 x11 x12 x13 x14 x15 x16 x17 x18 s1 hn0 hm
  have h3 := lap3 T x0 x2 (some (.fz (.int (n : Nat)))) (some (.fz (.int (most : Nat)))) x7 x8 x9 x10 x11 x12 x13 x14 x15 x16 x17 x18 (some s2) c
  obtain ⟨k, p0, s3, hk, hp0, h45⟩ := lap45 T x0 x2 (some (.fz (webD n ts))) (some (.fz (plD ps))) x7 x8 x9 x10 x11 x12 x13 x14 x15 x16 x17 x18 s2 (n := n) (most := most) ⟨c.pok.n1, c.pok.n8⟩ hm
  obtain ⟨p, s4, y9, y10, hp, h6⟩ := lap6 T x0 x2 (some (.fz (.int (n : Nat)))) (some (.fz (.int (most : Nat)))) (some (.fz (.int (k : Nat)))) x9 x10 x11 x12 x13 x14 x15 x16 x17 x18 s3 c hp0
  have hl8 : ps.length ≤ 8 := by rw [c.pok.len]; exact c.pok.n8
  have h7 := lap7 (fn := fn) x0 x2 (some (.fz (.int (n : Nat)))) (some (.fz (.int (most : Nat)))) (some (.fz (webD n ts))) y9 y10 x11 x12 x13 x14 x15 x16 x17 x18 (k := k) (p := p) hl8 (some s4)
  obtain ⟨l, z9, z10, z17, hl81, hlb, h8⟩ := lap8 (fn := fn) x0 x2 (some (.fz (.int (most : Nat)))) (some (.fz (plD ps))) (some (.fz (.int (k : Nat)))) (some (.fz (pt p))) y9 y10 (some (.fz (plD (putP ps k p)))) x12 x13 x14 x15 x16 x17 x18 (some s4) c.pok.n8 c.tie
  obtain ⟨ts', s5, htb, htl, h9⟩ := lap9 x0 x2 (some (.fz (.int (most : Nat)))) (some (.fz (plD ps))) (some (.fz (.int (k : Nat)))) (some (.fz (pt p))) z9 z10 (some (.fz (plD (putP ps k p)))) x13 x14 x15 x16 z17 x18 T s4 c.tie c.few hl81 hlb
  have smp : ∀ q, q ∈ putP ps k p → SmP q := by
    intro q hq
    rcases putP_mem hq with h | rfl
    · exact c.pok.sm q h
    · exact hp
  have n8 := c.pok.n8
  have n1 := c.pok.n1
  have plen : (putP ps k p).length = n := by rw [putP_len (by rw [c.pok.len]; exact hk), c.pok.len]
  have few := c.few
  have o1 : Ok n ts (putP ps k p) := ⟨n1, by omega, plen, smp, c.tie, by omega⟩
  have o2 : Ok n ts' ps := ⟨n1, by omega, c.pok.len, c.pok.sm, htb, htl⟩
  have o3 : Ok n ts' (putP ps k p) := ⟨n1, by omega, plen, smp, htb, htl⟩
  have hI : evI fn (.seq (.tup (.cons (.tup (.cons (.var 5) (.cons (.var 11) .nil))) (.cons (.tup (.cons (.var 13) (.cons (.var 6) .nil))) (.cons (.tup (.cons (.var 13) (.cons (.var 11) .nil))) .nil))))) [x0, some .src, x2, some (.fz (.int (n : Nat))), some (.fz (.int (most : Nat))), some (.fz (webD n ts)), some (.fz (plD ps)), some (.fz (.int (k : Nat))), some (.fz (pt p)), z9, z10, some (.fz (plD (putP ps k p))), some (.fz (.list (l.map tieD))), some (.fz (webD n ts')), x14, x15, x16, z17, x18] (some s5) = .ok ⟨[(ts, putP ps k p), (ts', ps), (ts', putP ps k p)].map (grp n), none, []⟩ [x0, some .src, x2, some (.fz (.int (n : Nat))), some (.fz (.int (most : Nat))), some (.fz (webD n ts)), some (.fz (plD ps)), some (.fz (.int (k : Nat))), some (.fz (pt p)), z9, z10, some (.fz (plD (putP ps k p))), some (.fz (.list (l.map tieD))), some (.fz (webD n ts')), x14, x15, x16, z17, x18] (some s5) := by
    simp only [e_ev_var, e_ev_cI, e_ev_cS, e_ev_cN, e_ev_cB, e_ev_neg, e_ev_tup, e_ev_lst, e_ev_bin, e_ev_cmp, e_ev_chn, e_ev_and, e_ev_or, e_ev_not, e_ev_ite, e_ev_sub, e_ev_slc, e_ev_rev, e_ev_call, e_ev_bi, e_ev_isi, e_ev_index, e_ev_pop, e_ev_popAt, e_evs_nil, e_evs_cons, e_evAnd_one, e_evAnd_more, e_evOr_one, e_evOr_more, e_evO_no, e_evO_yes, e_evI_seq, e_evI_rng1, e_evI_rng2, e_evI_enm, e_evI_zp, e_xS_asg, e_xS_set, e_xS_par, e_xS_par3, e_xS_exp, e_xS_app, e_xS_ext, e_xS_setIx, e_xS_ret, e_xS_ife, e_xS_pas, e_xS_brk, e_xS_cnt, e_xS_nev, e_xsl_nil, e_xsl_cons, q_bind, q_toS, q_seq1, q_seq2, q_seq3, q_seq4, q_end1, q_end2, q_tst, q_pick, q_ret1, q_ret2, q_ret3, q_dv1, q_dv2, q_es1, q_es2, q_ea0, q_ea1, q_ea2, q_ea3, q_ec1, line0, line1, line2, line3, line4, line5, line6, line7, line8, q_sk1, q_sk2, q_sk3, q_noX, q_hold1, q_hold2, q_frz1, id, q_goS, q_sv1, q_sv2, q_sv3, q_ub1, q_ub2, q_pv, parS, parS3, Nat.reduceLT, Nat.reduceLeDiff, q_andK, q_orK, q_chnK, q_ite1, q_ite2, q_ite3, q_ite4, q_ite5, decide_eq_true_eq, Bool.not_eq_true', decide_eq_false_iff_not, q_add, q_sub, q_lt, q_le, q_gt, q_ge, q_eqI, q_neI, q_len1, q_len2, q_int1, q_int2, q_min, q_max, q_tup1, q_tup2, q_lst1, q_lst2, q_subL, q_subT, q_slL, q_slT, argE, List.getElem?_cons_zero, List.getElem?_cons_succ, List.getElem?_nil, List.map_cons, List.map_nil, List.replicate, List.nil_append, List.cons_append, List.append_nil, Option.map_some, Option.map_none, if_true, if_false, reduceIte, List.length_cons, List.length_nil, Nat.reduceAdd, Nat.reduceSub, List.mapM_cons, List.mapM_nil, Option.bind_eq_bind, Option.bind_some, Option.pure_def, atI_lit, List.set_cons_zero, List.set_cons_succ, q_as1, q_as2, q_as3, q_as4, q_as5, q_wp0, q_wp1, q_kp0, q_kp1, q_ed0, q_ed1, Bool.false_eq_true, Bool.not_true, Bool.not_false, grp]
  obtain ⟨y14, y15, h10⟩ := looks_loop T [(ts, putP ps k p), (ts', ps), (ts', putP ps k p)] (by
    intro g hg
    simp only [List.mem_cons, List.not_mem_nil, or_false] at hg
    rcases hg with rfl | rfl | rfl
    · exact o1
    · exact o2
    · exact o3) (some s5) x0 x2 (some (.fz (.int (n : Nat)))) (some (.fz (.int (most : Nat)))) (some (.fz (webD n ts))) (some (.fz (plD ps))) (some (.fz (.int (k : Nat)))) (some (.fz (pt p))) z9 z10 (some (.fz (plD (putP ps k p)))) (some (.fz (.list (l.map tieD)))) (some (.fz (webD n ts'))) x14 x15 x16 z17 x18 _ hI
  have h11 := lap11 (fn := fn) x0 x2 (some (.fz (.int (n : Nat)))) (some (.fz (.int (most : Nat)))) (some (.fz (webD n ts))) z9 z10 (some (.fz (plD (putP ps k p)))) (some (.fz (.list (l.map tieD)))) (some (.fz (webD n ts'))) y14 y15 x16 z17 x18 (some s5) (k := k) (p := p) hl8
  obtain ⟨y18, h12b⟩ := lapS12 (fn := fn) x0 x2 (some (.fz (.int (n : Nat)))) (some (.fz (.int (most : Nat)))) (some (.fz (webD n ts))) (some (.fz (pt p))) z9 z10 (some (.fz (plD (putP ps k p)))) (some (.fz (.list (l.map tieD)))) (some (.fz (webD n ts'))) y14 y15 z17 x18 (some s5) (k := k) (p := p) hl8
  obtain ⟨z15, h13⟩ := lap13 x0 x2 (some (.fz (.int (n : Nat)))) (some (.fz (.int (most : Nat)))) (some (.fz (plD ps))) (some (.fz (.int (k : Nat)))) (some (.fz (pt p))) z9 z10 (some (.fz (plD (putP ps k p)))) (some (.fz (.list (l.map tieD)))) (some (.fz (webD n ts'))) y14 y15 z17 y18 T (some s5) (n := n) (ts := ts) ⟨n1, by omega⟩ (odds_bad c.pok hk hp) (by show 14 ≤ 100; decide)
  refine ⟨[x0, some .src, x2, some (.fz (.int (n : Nat))), some (.fz (.int (most : Nat))), some (.fz (webD n ts)), some (.fz (plD ps)), some (.fz (.int (k : Nat))), some (.fz (pt p)), z9, z10, some (.fz (plD (putP ps k p))), some (.fz (.list (l.map tieD))), some (.fz (webD n ts')), y14, z15, some (.lst (odds ps k p ++ ones.map (fun e => .tuple (putD (ps.map pt) k e)))), z17, y18], s5, ?_, _, _, _, _, _, _, _, _, _, _, _, _, _, _, _, _, _, _, rfl⟩
  rw [xsl_nx h0, h12, xsl_nx h3, h45, xsl_nx h6, xsl_nx h7, xsl_nx h8, xsl_nx h9, xsl_nx h10, xsl_nx h11, xsl_nx h12b, xsl_nx h13, e_xsl_nil]
theorem law_true (s : Src) : ∃ w', xsl (fnAt tab 50) b_law (lawE 19) (some s) = .rt (.fz (.bool true)) w' := by
  have T := tools 44
  have hT : Tools (fnAt tab 50) := T
  generalize fnAt tab 50 = fn at *
  have L := for_ix (tg := .nm 2) (b := xsl fn (.cons (.asg (.tp (.cons (.nm 3) (.cons (.nm 4) .nil))) (.tup (.cons (.bin .add (.cI 1) (.call 8 (.cons (.var 1) (.cons (.cI 8) .nil)))) (.cons (.sub (.lst (.cons (.cI 3) (.cons (.cI 4) (.cons (.cI 6) (.cons (.cI 9) (.cons (.cI 1000) .nil)))))) (.call 8 (.cons (.var 1) (.cons (.cI 5) .nil)))) .nil)))) (.cons (.asg (.tp (.cons (.nm 5) (.cons (.nm 6) .nil))) (.call 15 (.cons (.var 1) (.cons (.var 3) (.cons (.var 4) .nil))))) (.cons (.set 3 (.sub (.var 5) (.cI 0))) (.cons (.ife (.or (.cons (.cmp .notn (.call 7 (.cons (.var 5) (.cons (.var 6) .nil))) .cN) (.cons (.cmp .ne (.call 4 (.cons (.var 5) (.cons (.var 6) .nil))) (.tup .nil)) .nil))) (.cons (.ret (.cB false)) .nil) .nil) (.cons (.set 7 (.call 8 (.cons (.var 1) (.cons (.var 3) .nil)))) (.cons (.set 8 (.tup (.cons (.call 8 (.cons (.var 1) (.cons (.var 4) .nil))) (.cons (.call 8 (.cons (.var 1) (.cons (.var 4) .nil))) .nil)))) (.cons (.ife (.and (.cons (.cmp .eq (.call 8 (.cons (.var 1) (.cons (.cI 3) .nil))) (.cI 0)) (.cons (.cmp .ne (.sub (.var 5) (.cI 1)) (.tup .nil)) .nil))) (.cons (.asg (.tp (.cons (.nm 9) (.cons (.nm 10) .nil))) (.sub (.sub (.var 5) (.cI 1)) (.call 8 (.cons (.var 1) (.cons (.bi .len (.cons (.sub (.var 5) (.cI 1)) .nil)) .nil))))) (.cons (.set 8 (.tup (.cons (.bin .fdiv (.bin .add (.sub (.sub (.var 6) (.var 9)) (.cI 0)) (.sub (.sub (.var 6) (.var 10)) (.cI 0))) (.cI 2)) (.cons (.bin .fdiv (.bin .add (.sub (.sub (.var 6) (.var 9)) (.cI 1)) (.sub (.sub (.var 6) (.var 10)) (.cI 1))) (.cI 2)) .nil)))) .nil)) .nil) (.cons (.set 11 (.bin .add (.bin .add (.slc (.var 6) .no (.yes (.var 7))) (.tup (.cons (.var 8) .nil))) (.slc (.var 6) (.yes (.bin .add (.var 7) (.cI 1))) .no))) (.cons (.set 12 (.lc [("a", 9), ("b", 10)] (.tp (.cons (.nm 9) (.cons (.nm 10) .nil))) (.seq (.lc [("i", 17)] (.nm 17) (.rng1 (.cI 81)) .nil (.tup (.cons (.bin .fdiv (.var 17) (.cI 9)) (.cons (.bin .mod (.var 17) (.cI 9)) .nil))))) (.cons (.and (.cons (.chn .lt .lt (.var 9) (.var 10) (.var 3)) (.cons (.cmp .notin (.tup (.cons (.var 9) (.cons (.var 10) .nil))) (.sub (.var 5) (.cI 1))) .nil))) .nil) (.tup (.cons (.var 9) (.cons (.var 10) .nil))))) (.cons (.set 13 (.tup (.cons (.var 3) (.cons (.bi .tuple (.cons (.bi .sorted (.cons (.bin .add (.sub (.var 5) (.cI 1)) (.bi .tuple (.cons (.slc (.call 9 (.cons (.var 1) (.cons (.var 12) .nil))) .no (.yes (.cI 2))) .nil))) .nil)) .nil)) .nil)))) (.cons (.for_ (.tp (.cons (.nm 14) (.cons (.nm 15) .nil))) (.seq (.tup (.cons (.tup (.cons (.var 5) (.cons (.var 11) .nil))) (.cons (.tup (.cons (.var 13) (.cons (.var 6) .nil))) (.cons (.tup (.cons (.var 13) (.cons (.var 11) .nil))) .nil))))) (.cons (.ife (.cmp .ne (.bi .repr (.cons (.call 7 (.cons (.var 14) (.cons (.var 15) .nil))) .nil)) (.bi .repr (.cons (.call 14 (.cons (.var 14) (.cons (.var 15) .nil))) .nil))) (.cons (.ret (.cB false)) .nil) .nil) (.cons (.ife (.cmp .ne (.bi .repr (.cons (.call 4 (.cons (.var 14) (.cons (.var 15) .nil))) .nil)) (.bi .repr (.cons (.bi .tuple (.cons (.call 13 (.cons (.var 14) (.cons (.var 15) .nil))) .nil)) .nil))) (.cons (.ret (.cB false)) .nil) .nil) .nil))) (.cons (.set 16 (.lst (.cons .cN (.cons (.tup .nil) (.cons (.bi .list (.cons (.var 6) .nil)) (.cons (.bin .add (.var 6) (.tup (.cons (.tup (.cons (.cI 99) (.cons (.cI 99) .nil))) .nil))) (.cons (.slc (.var 6) .no (.yes (.neg (.cI 1)))) (.cons (.bin .add (.bin .add (.slc (.var 6) .no (.yes (.var 7))) (.tup (.cons (.bi .list (.cons (.var 8) .nil)) .nil))) (.slc (.var 6) (.yes (.bin .add (.var 7) (.cI 1))) .no)) (.cons (.cI 7) (.cons (.cS "places") .nil)))))))))) (.cons (.set 16 (.bin .add (.var 16) (.lc [("one", 18)] (.nm 18) (.seq (.tup (.cons (.tup (.cons (.cB true) (.cons (.cI 0) .nil))) (.cons (.tup (.cons (.cI 0) .nil)) (.cons (.tup (.cons (.cI 0) (.cons (.cI 0) (.cons (.cI 0) .nil)))) (.cons .cN (.cons (.tup (.cons (.cS "0") (.cons (.cI 0) .nil))) (.cons (.tup (.cons (.cI 0) (.cons (.lst (.cons (.cI 1) .nil)) .nil))) .nil)))))))) .nil (.bin .add (.bin .add (.slc (.var 6) .no (.yes (.var 7))) (.tup (.cons (.var 18) .nil))) (.slc (.var 6) (.yes (.bin .add (.var 7) (.cI 1))) .no))))) (.cons (.ife (.or (.cons (.bi .any (.cons (.lc [("value", 15)] (.nm 15) (.seq (.var 16)) (.cons (.cmp .ne (.var 15) (.tup .nil)) .nil) (.cmp .ne (.call 7 (.cons (.var 5) (.cons (.var 15) .nil))) (.tup (.cons (.cS "form") .nil)))) .nil)) (.cons (.cmp .ne (.call 7 (.cons (.var 5) (.cons (.tup .nil) .nil))) (.tup (.cons (.cS "form") .nil))) .nil))) (.cons (.ret (.cB false)) .nil) .nil) .nil))))))))))))))) (ds := rngL 0 4) (env := lawE 19) (w := some s)
    (J := fun i env w => ∃ s' : Src, w = some s' ∧ ∃ x0 x2 x3 x4 x5 x6 x7 x8 x9 x10 x11 x12 x13 x14 x15 x16 x17 x18 : Option EV, env = [x0, some .src, x2, x3, x4, x5, x6, x7, x8, x9, x10, x11, x12, x13, x14, x15, x16, x17, x18]) ⟨s, rfl, none, none, none, none, none, none, none, none, none, none, none, none, none, none, none, none, none, none, rfl⟩ ?_
  · obtain ⟨e2, w2, h1, s', rfl, x0, x2, x3, x4, x5, x6, x7, x8, x9, x10, x11, x12, x13, x14, x15, x16, x17, x18, rfl⟩ := L
    have h := xS_forN (evI_rng1N (n := 4) (a := .cI 4) (fn := fn) (env := lawE 19) (e1 := lawE 19) (w := some s) (w1 := some s) (by rw [e_ev_cI]; rfl) (by decide)) h1
    refine ⟨some s', ?_⟩
    unfold b_law
    rw [xsl_nx h]
    simp only [e_ev_var, e_ev_cI, e_ev_cS, e_ev_cN, e_ev_cB, e_ev_neg, e_ev_tup, e_ev_lst, e_ev_bin, e_ev_cmp, e_ev_chn, e_ev_and, e_ev_or, e_ev_not, e_ev_ite, e_ev_sub, e_ev_slc, e_ev_rev, e_ev_call, e_ev_bi, e_ev_isi, e_ev_index, e_ev_pop, e_ev_popAt, e_evs_nil, e_evs_cons, e_evAnd_one, e_evAnd_more, e_evOr_one, e_evOr_more, e_evO_no, e_evO_yes, e_evI_seq, e_evI_rng1, e_evI_rng2, e_evI_enm, e_evI_zp, e_xS_asg, e_xS_set, e_xS_par, e_xS_par3, e_xS_exp, e_xS_app, e_xS_ext, e_xS_setIx, e_xS_ret, e_xS_ife, e_xS_pas, e_xS_brk, e_xS_cnt, e_xS_nev, e_xsl_nil, e_xsl_cons, q_bind, q_toS, q_seq1, q_seq2, q_seq3, q_seq4, q_end1, q_end2, q_tst, q_pick, q_ret1, q_ret2, q_ret3, q_dv1, q_dv2, q_es1, q_es2, q_ea0, q_ea1, q_ea2, q_ea3, q_ec1, line0, line1, line2, line3, line4, line5, line6, line7, line8, q_sk1, q_sk2, q_sk3, q_noX, q_hold1, q_hold2, q_frz1, id, q_goS, q_sv1, q_sv2, q_sv3, q_ub1, q_ub2, q_pv, parS, parS3, Nat.reduceLT, Nat.reduceLeDiff, q_andK, q_orK, q_chnK, q_ite1, q_ite2, q_ite3, q_ite4, q_ite5, decide_eq_true_eq, Bool.not_eq_true', decide_eq_false_iff_not, q_add, q_sub, q_lt, q_le, q_gt, q_ge, q_eqI, q_neI, q_len1, q_len2, q_int1, q_int2, q_min, q_max, q_tup1, q_tup2, q_lst1, q_lst2, q_subL, q_subT, q_slL, q_slT, argE, List.getElem?_cons_zero, List.getElem?_cons_succ, List.getElem?_nil, List.map_cons, List.map_nil, List.replicate, List.nil_append, List.cons_append, List.append_nil, Option.map_some, Option.map_none, if_true, if_false, reduceIte, List.length_cons, List.length_nil, Nat.reduceAdd, Nat.reduceSub, List.mapM_cons, List.mapM_nil, Option.bind_eq_bind, Option.bind_some, Option.pure_def, atI_lit, List.set_cons_zero, List.set_cons_succ, q_as1, q_as2, q_as3, q_as4, q_as5, q_wp0, q_wp1, q_kp0, q_kp1, q_ed0, q_ed1, Bool.false_eq_true, Bool.not_true, Bool.not_false]
  · rintro i d hd env w ⟨s', rfl, x0, x2, x3, x4, x5, x6, x7, x8, x9, x10, x11, x12, x13, x14, x15, x16, x17, x18, rfl⟩
    refine ⟨[x0, some .src, some (.fz d), x3, x4, x5, x6, x7, x8, x9, x10, x11, x12, x13, x14, x15, x16, x17, x18], by simp only [e_ev_var, e_ev_cI, e_ev_cS, e_ev_cN, e_ev_cB, e_ev_neg, e_ev_tup, e_ev_lst, e_ev_bin, e_ev_cmp, e_ev_chn, e_ev_and, e_ev_or, e_ev_not, e_ev_ite, e_ev_sub, e_ev_slc, e_ev_rev, e_ev_call, e_ev_bi, e_ev_isi, e_ev_index, e_ev_pop, e_ev_popAt, e_evs_nil, e_evs_cons, e_evAnd_one, e_evAnd_more, e_evOr_one, e_evOr_more, e_evO_no, e_evO_yes, e_evI_seq, e_evI_rng1, e_evI_rng2, e_evI_enm, e_evI_zp, e_xS_asg, e_xS_set, e_xS_par, e_xS_par3, e_xS_exp, e_xS_app, e_xS_ext, e_xS_setIx, e_xS_ret, e_xS_ife, e_xS_pas, e_xS_brk, e_xS_cnt, e_xS_nev, e_xsl_nil, e_xsl_cons, q_bind, q_toS, q_seq1, q_seq2, q_seq3, q_seq4, q_end1, q_end2, q_tst, q_pick, q_ret1, q_ret2, q_ret3, q_dv1, q_dv2, q_es1, q_es2, q_ea0, q_ea1, q_ea2, q_ea3, q_ec1, line0, line1, line2, line3, line4, line5, line6, line7, line8, q_sk1, q_sk2, q_sk3, q_noX, q_hold1, q_hold2, q_frz1, id, q_goS, q_sv1, q_sv2, q_sv3, q_ub1, q_ub2, q_pv, parS, parS3, Nat.reduceLT, Nat.reduceLeDiff, q_andK, q_orK, q_chnK, q_ite1, q_ite2, q_ite3, q_ite4, q_ite5, decide_eq_true_eq, Bool.not_eq_true', decide_eq_false_iff_not, q_add, q_sub, q_lt, q_le, q_gt, q_ge, q_eqI, q_neI, q_len1, q_len2, q_int1, q_int2, q_min, q_max, q_tup1, q_tup2, q_lst1, q_lst2, q_subL, q_subT, q_slL, q_slT, argE, List.getElem?_cons_zero, List.getElem?_cons_succ, List.getElem?_nil, List.map_cons, List.map_nil, List.replicate, List.nil_append, List.cons_append, List.append_nil, Option.map_some, Option.map_none, if_true, if_false, reduceIte, List.length_cons, List.length_nil, Nat.reduceAdd, Nat.reduceSub, List.mapM_cons, List.mapM_nil, Option.bind_eq_bind, Option.bind_some, Option.pure_def, atI_lit, List.set_cons_zero, List.set_cons_succ, q_as1, q_as2, q_as3, q_as4, q_as5, q_wp0, q_wp1, q_kp0, q_kp1, q_ed0, q_ed1, Bool.false_eq_true, Bool.not_true, Bool.not_false], ?_⟩
    obtain ⟨e2, s'', h, he⟩ := lap_all hT s' x0 (some (.fz d)) x3 x4 x5 x6 x7 x8 x9 x10 x11 x12 x13 x14 x15 x16 x17 x18
    exact ⟨e2, some s'', .inl h, s'', rfl, he⟩
end K37

set_option Elab.async false
set_option linter.all false
set_option maxRecDepth 100000
set_option maxHeartbeats 8000000
set_option autoImplicit false
namespace K37
open PySem PySem.Spec L2 DL
theorem sc_turn : FnScope c_turn.N ["p", "q", "r"] (defScope s_turn) := ⟨rfl, rfl, rfl, by decide +kernel, rfl, by decide +kernel, by decide +kernel⟩
theorem sc_is_pair : FnScope c_is_pair.N ["value"] (defScope s_is_pair) := ⟨rfl, rfl, rfl, by decide +kernel, rfl, by decide +kernel, by decide +kernel⟩
theorem sc_is_between : FnScope c_is_between.N ["p", "q", "r"] (defScope s_is_between) := ⟨rfl, rfl, rfl, by decide +kernel, rfl, by decide +kernel, by decide +kernel⟩
theorem sc_do_meet : FnScope c_do_meet.N ["places", "one", "other"] (defScope s_do_meet) := ⟨rfl, rfl, rfl, by decide +kernel, rfl, by decide +kernel, by decide +kernel⟩
theorem sc_meetings : FnScope c_meetings.N ["web", "places"] (defScope s_meetings) := ⟨rfl, rfl, rfl, by decide +kernel, rfl, by decide +kernel, by decide +kernel⟩
theorem sc_first_same : FnScope c_first_same.N ["web", "places"] (defScope s_first_same) := ⟨rfl, rfl, rfl, by decide +kernel, rfl, by decide +kernel, by decide +kernel⟩
theorem sc_first_on : FnScope c_first_on.N ["web", "places"] (defScope s_first_on) := ⟨rfl, rfl, rfl, by decide +kernel, rfl, by decide +kernel, by decide +kernel⟩
theorem sc_place_fault : FnScope c_place_fault.N ["web", "value"] (defScope s_place_fault) := ⟨rfl, rfl, rfl, by decide +kernel, rfl, by decide +kernel, by decide +kernel⟩
theorem sc__law_any_order : FnScope c__law_any_order.N ["source", "things"] (defScope s__law_any_order) := ⟨rfl, rfl, rfl, by decide +kernel, rfl, by decide +kernel, by decide +kernel⟩
theorem sc__law_side : FnScope c__law_side.N ["p", "q", "r"] (defScope s__law_side) := ⟨rfl, rfl, rfl, by decide +kernel, rfl, by decide +kernel, by decide +kernel⟩
theorem sc__law_lies : FnScope c__law_lies.N ["p", "q", "r"] (defScope s__law_lies) := ⟨rfl, rfl, rfl, by decide +kernel, rfl, by decide +kernel, by decide +kernel⟩
theorem sc__law_meet : FnScope c__law_meet.N ["p", "q", "r", "s"] (defScope s__law_meet) := ⟨rfl, rfl, rfl, by decide +kernel, rfl, by decide +kernel, by decide +kernel⟩
theorem sc__law_meetings : FnScope c__law_meetings.N ["web", "places"] (defScope s__law_meetings) := ⟨rfl, rfl, rfl, by decide +kernel, rfl, by decide +kernel, by decide +kernel⟩
theorem sc__law_fault : FnScope c__law_fault.N ["web", "value"] (defScope s__law_fault) := ⟨rfl, rfl, rfl, by decide +kernel, rfl, by decide +kernel, by decide +kernel⟩
theorem sc__law_draw_clear : FnScope c__law_draw_clear.N ["source", "n", "most"] (defScope s__law_draw_clear) := ⟨rfl, rfl, rfl, by decide +kernel, rfl, by decide +kernel, by decide +kernel⟩
theorem sc_law : FnScope c_law.N ["script"] (defScope s_law) := ⟨rfl, rfl, rfl, by decide +kernel, rfl, by decide +kernel, by decide +kernel⟩
theorem all_mk {l : PySem.W.OpenLaw} {w : World} {K : PySem.W.Frag} {h : Heap} {mg : Str → Option Value} {fa : Addr} (X : K.In h) (G : h.Ns mainGlobals mg) (hfa : mg "law" = some (.ref fa))
    (d0 : DK K "turn" s_turn)
    (d1 : DK K "is_pair" s_is_pair)
    (d2 : DK K "is_between" s_is_between)
    (d3 : DK K "do_meet" s_do_meet)
    (d4 : DK K "meetings" s_meetings)
    (d5 : DK K "first_same" s_first_same)
    (d6 : DK K "first_on" s_first_on)
    (d7 : DK K "place_fault" s_place_fault)
    (d8 : DK K "_law_pick" s_pick)
    (d9 : DK K "_law_any_order" s__law_any_order)
    (d10 : DK K "_law_side" s__law_side)
    (d11 : DK K "_law_lies" s__law_lies)
    (d12 : DK K "_law_meet" s__law_meet)
    (d13 : DK K "_law_meetings" s__law_meetings)
    (d14 : DK K "_law_fault" s__law_fault)
    (d15 : DK K "_law_draw_clear" s__law_draw_clear)
    (d16 : DK K "_law_open_cells" s_open)
    (d17 : DK K "law" s_law)
    (z0 : PySem.W.nsIn K mainGlobals "len" = some none) (z1 : PySem.W.nsIn K mainGlobals "int" = some none) (z2 : PySem.W.nsIn K mainGlobals "abs" = some none) (z3 : PySem.W.nsIn K mainGlobals "min" = some none) (z4 : PySem.W.nsIn K mainGlobals "max" = some none) (z5 : PySem.W.nsIn K mainGlobals "sorted" = some none) (z6 : PySem.W.nsIn K mainGlobals "tuple" = some none) (z7 : PySem.W.nsIn K mainGlobals "list" = some none) (z8 : PySem.W.nsIn K mainGlobals "any" = some none) (z9 : PySem.W.nsIn K mainGlobals "all" = some none) (z10 : PySem.W.nsIn K mainGlobals "repr" = some none) (z11 : PySem.W.nsIn K mainGlobals "sum" = some none) (z12 : PySem.W.nsIn K mainGlobals "isinstance" = some none) (z13 : PySem.W.nsIn K mainGlobals "bool" = some none) (z14 : PySem.W.nsIn K mainGlobals "str" = some none) (z15 : PySem.W.nsIn K mainGlobals "dict" = some none) (z16 : PySem.W.nsIn K mainGlobals "range" = some none) (z17 : PySem.W.nsIn K mainGlobals "enumerate" = some none) (z18 : PySem.W.nsIn K mainGlobals "zip" = some none) (z19 : PySem.W.nsIn K mainGlobals "set" = some none)
    (law : ∀ s : Src, ∃ w', xsl (fnAt tab 50) b_law (lawE 19) (some s) = .rt (.fz (.bool true)) w') :
    ∃ fd : FuncData, (∀ (s : Shared) (v : Value), BindsTo s fd ⟨[v], []⟩ [("script", v)]) ∧ ∀ base : Heap, K.In base → base.Ns mainGlobals mg → FnG l.prog w K mg base 51 fa fd ["script"] (spLaw K) := by
  have bi : ∀ x, x ∈ bnames → mg x = none := by
    intro x hx
    simp only [bnames, List.mem_cons, List.not_mem_nil, or_false] at hx
    rcases hx with rfl | rfl | rfl | rfl | rfl | rfl | rfl | rfl | rfl | rfl | rfl | rfl | rfl | rfl | rfl | rfl | rfl | rfl | rfl | rfl
    · exact PySem.W.mg_none_of X G z0
    · exact PySem.W.mg_none_of X G z1
    · exact PySem.W.mg_none_of X G z2
    · exact PySem.W.mg_none_of X G z3
    · exact PySem.W.mg_none_of X G z4
    · exact PySem.W.mg_none_of X G z5
    · exact PySem.W.mg_none_of X G z6
    · exact PySem.W.mg_none_of X G z7
    · exact PySem.W.mg_none_of X G z8
    · exact PySem.W.mg_none_of X G z9
    · exact PySem.W.mg_none_of X G z10
    · exact PySem.W.mg_none_of X G z11
    · exact PySem.W.mg_none_of X G z12
    · exact PySem.W.mg_none_of X G z13
    · exact PySem.W.mg_none_of X G z14
    · exact PySem.W.mg_none_of X G z15
    · exact PySem.W.mg_none_of X G z16
    · exact PySem.W.mg_none_of X G z17
    · exact PySem.W.mg_none_of X G z18
    · exact PySem.W.mg_none_of X G z19
  obtain ⟨fl, fdl, l1, l2, l3⟩ := d17.fn X G
  cases hfa.symm.trans l1
  obtain ⟨fo, fdo, o1, o2, o3⟩ := d16.fn X G
  refine ⟨fdl, fun s v => ?_, fun base hb1 hb2 => ?_⟩
  · obtain ⟨_, _, _, _, _, _, _, _, _, e, _, _⟩ := l3.ex
    subst e
    exact .of_eq rfl
  have table : ∀ (f : Nat) (x : Str), names[f]? = some x → ∃ d : Dfe, tab[f]? = some d ∧ DefAt l.prog w K (fun _ _ _ _ _ => False) mg base names x d := by
    intro f x hx
    match f, hx with
    | 0, hx =>
      cases hx
      exact ⟨_, rfl, txt_at d0 X G (ps := ["p", "q", "r"]) (fun _ _ _ _ _ _ us hl => match us, hl with | [_, _, _], _ => rfl) rfl sc_turn rfl rfl rfl rfl k_turn⟩
    | 1, hx =>
      cases hx
      exact ⟨_, rfl, txt_at d1 X G (ps := ["value"]) (fun _ _ _ _ _ _ us hl => match us, hl with | [_], _ => rfl) rfl sc_is_pair rfl rfl rfl rfl k_is_pair⟩
    | 2, hx =>
      cases hx
      exact ⟨_, rfl, txt_at d2 X G (ps := ["p", "q", "r"]) (fun _ _ _ _ _ _ us hl => match us, hl with | [_, _, _], _ => rfl) rfl sc_is_between rfl rfl rfl rfl k_is_between⟩
    | 3, hx =>
      cases hx
      exact ⟨_, rfl, txt_at d3 X G (ps := ["places", "one", "other"]) (fun _ _ _ _ _ _ us hl => match us, hl with | [_, _, _], _ => rfl) rfl sc_do_meet rfl rfl rfl rfl k_do_meet⟩
    | 4, hx =>
      cases hx
      exact ⟨_, rfl, txt_at d4 X G (ps := ["web", "places"]) (fun _ _ _ _ _ _ us hl => match us, hl with | [_, _], _ => rfl) rfl sc_meetings rfl rfl rfl rfl k_meetings⟩
    | 5, hx =>
      cases hx
      exact ⟨_, rfl, txt_at d5 X G (ps := ["web", "places"]) (fun _ _ _ _ _ _ us hl => match us, hl with | [_, _], _ => rfl) rfl sc_first_same rfl rfl rfl rfl k_first_same⟩
    | 6, hx =>
      cases hx
      exact ⟨_, rfl, txt_at d6 X G (ps := ["web", "places"]) (fun _ _ _ _ _ _ us hl => match us, hl with | [_, _], _ => rfl) rfl sc_first_on rfl rfl rfl rfl k_first_on⟩
    | 7, hx =>
      cases hx
      exact ⟨_, rfl, txt_at d7 X G (ps := ["web", "value"]) (fun _ _ _ _ _ _ us hl => match us, hl with | [_, _], _ => rfl) rfl sc_place_fault rfl rfl rfl rfl k_place_fault⟩
    | 8, hx =>
      cases hx
      exact ⟨_, rfl, nat_at d8 X G (ps := ["source", "most"]) (fun _ _ _ _ _ _ us hl => match us, hl with | [_, _], _ => rfl) rfl fun f fd h => pick_ok h bi⟩
    | 9, hx =>
      cases hx
      exact ⟨_, rfl, txt_at d9 X G (ps := ["source", "things"]) (fun _ _ _ _ _ _ us hl => match us, hl with | [_, _], _ => rfl) rfl sc__law_any_order rfl rfl rfl rfl k__law_any_order⟩
    | 10, hx =>
      cases hx
      exact ⟨_, rfl, txt_at d10 X G (ps := ["p", "q", "r"]) (fun _ _ _ _ _ _ us hl => match us, hl with | [_, _, _], _ => rfl) rfl sc__law_side rfl rfl rfl rfl k__law_side⟩
    | 11, hx =>
      cases hx
      exact ⟨_, rfl, txt_at d11 X G (ps := ["p", "q", "r"]) (fun _ _ _ _ _ _ us hl => match us, hl with | [_, _, _], _ => rfl) rfl sc__law_lies rfl rfl rfl rfl k__law_lies⟩
    | 12, hx =>
      cases hx
      exact ⟨_, rfl, txt_at d12 X G (ps := ["p", "q", "r", "s"]) (fun _ _ _ _ _ _ us hl => match us, hl with | [_, _, _, _], _ => rfl) rfl sc__law_meet rfl rfl rfl rfl k__law_meet⟩
    | 13, hx =>
      cases hx
      exact ⟨_, rfl, txt_at d13 X G (ps := ["web", "places"]) (fun _ _ _ _ _ _ us hl => match us, hl with | [_, _], _ => rfl) rfl sc__law_meetings rfl rfl rfl rfl k__law_meetings⟩
    | 14, hx =>
      cases hx
      exact ⟨_, rfl, txt_at d14 X G (ps := ["web", "value"]) (fun _ _ _ _ _ _ us hl => match us, hl with | [_, _], _ => rfl) rfl sc__law_fault rfl rfl rfl rfl k__law_fault⟩
    | 15, hx =>
      cases hx
      exact ⟨_, rfl, txt_at d15 X G (ps := ["source", "n", "most"]) (fun _ _ _ _ _ _ us hl => match us, hl with | [_, _, _], _ => rfl) rfl sc__law_draw_clear rfl rfl rfl rfl k__law_draw_clear⟩
    | n + 16, hx => simp [names] at hx
  exact law_ok (cx := c_law) (st0 := (defBody s_law).headD (.Pass ⟨0, 0, 0, 0⟩)) (rest := (defBody s_law).drop 1) (XR := fun _ _ _ _ _ => False) (x1 := "source") (xo := "_law_open_cells") l3 sc_law rfl rfl rfl rfl rfl (by decide +kernel) (by decide +kernel) (by decide +kernel) k_law (by decide) rfl
    (FnG.mono (open_ok o3 bi) (by decide)) o1 o2 (o3.binds fun _ _ _ _ _ _ us hl => match us, hl with | [_], _ => rfl) bi (all_ok bi table 50) law
end K37
open PySem PySem.W PyProof.Rows in
set_option maxRecDepth 100000 in
set_option maxHeartbeats 0 in
theorem PySem.Challenge.cw_drawnflat_k37_places_judged_holds : PySem.Challenge.rw_drawnflat_k37_places_judged.Holds := by
  w_on; o_law; k_head; (case hw => w_witness2)
  k_fill
  refine DL.walk_ofG (l := PySem.Challenge.rw_drawnflat_k37_places_judged) (k := 51) (x := "script") rfl rfl ⟨rfl, by decide, by decide⟩ (fun w h Y => PySem.W.kIn_of Y) ?F
  case F =>
    intro w mg fa h KX G hmg
    refine' K37.all_mk KX G hmg ?d0 ?d1 ?d2 ?d3 ?d4 ?d5 ?d6 ?d7 ?d8 ?d9 ?d10 ?d11 ?d12 ?d13 ?d14 ?d15 ?d16 ?d17 ?z0 ?z1 ?z2 ?z3 ?z4 ?z5 ?z6 ?z7 ?z8 ?z9 ?z10 ?z11 ?z12 ?z13 ?z14 ?z15 ?z16 ?z17 ?z18 ?z19 K37.law_true
    (case d0 => refine' DL.dk_mk ?a ?l ?c ?k; (case a => k_is); (case l => k_is); (case c => k_is); (case k => k_is))
    (case d1 => refine' DL.dk_mk ?a ?l ?c ?k; (case a => k_is); (case l => k_is); (case c => k_is); (case k => k_is))
    (case d2 => refine' DL.dk_mk ?a ?l ?c ?k; (case a => k_is); (case l => k_is); (case c => k_is); (case k => k_is))
    (case d3 => refine' DL.dk_mk ?a ?l ?c ?k; (case a => k_is); (case l => k_is); (case c => k_is); (case k => k_is))
    (case d4 => refine' DL.dk_mk ?a ?l ?c ?k; (case a => k_is); (case l => k_is); (case c => k_is); (case k => k_is))
    (case d5 => refine' DL.dk_mk ?a ?l ?c ?k; (case a => k_is); (case l => k_is); (case c => k_is); (case k => k_is))
    (case d6 => refine' DL.dk_mk ?a ?l ?c ?k; (case a => k_is); (case l => k_is); (case c => k_is); (case k => k_is))
    (case d7 => refine' DL.dk_mk ?a ?l ?c ?k; (case a => k_is); (case l => k_is); (case c => k_is); (case k => k_is))
    (case d8 => refine' DL.dk_mk ?a ?l ?c ?k; (case a => k_is); (case l => k_is); (case c => k_is); (case k => k_is))
    (case d9 => refine' DL.dk_mk ?a ?l ?c ?k; (case a => k_is); (case l => k_is); (case c => k_is); (case k => k_is))
    (case d10 => refine' DL.dk_mk ?a ?l ?c ?k; (case a => k_is); (case l => k_is); (case c => k_is); (case k => k_is))
    (case d11 => refine' DL.dk_mk ?a ?l ?c ?k; (case a => k_is); (case l => k_is); (case c => k_is); (case k => k_is))
    (case d12 => refine' DL.dk_mk ?a ?l ?c ?k; (case a => k_is); (case l => k_is); (case c => k_is); (case k => k_is))
    (case d13 => refine' DL.dk_mk ?a ?l ?c ?k; (case a => k_is); (case l => k_is); (case c => k_is); (case k => k_is))
    (case d14 => refine' DL.dk_mk ?a ?l ?c ?k; (case a => k_is); (case l => k_is); (case c => k_is); (case k => k_is))
    (case d15 => refine' DL.dk_mk ?a ?l ?c ?k; (case a => k_is); (case l => k_is); (case c => k_is); (case k => k_is))
    (case d16 => refine' DL.dk_mk ?a ?l ?c ?k; (case a => k_is); (case l => k_is); (case c => k_is); (case k => k_is))
    (case d17 => refine' DL.dk_mk ?a ?l ?c ?k; (case a => k_is); (case l => k_is); (case c => k_is); (case k => k_is))
    (case z0 => k_is)
    (case z1 => k_is)
    (case z2 => k_is)
    (case z3 => k_is)
    (case z4 => k_is)
    (case z5 => k_is)
    (case z6 => k_is)
    (case z7 => k_is)
    (case z8 => k_is)
    (case z9 => k_is)
    (case z10 => k_is)
    (case z11 => k_is)
    (case z12 => k_is)
    (case z13 => k_is)
    (case z14 => k_is)
    (case z15 => k_is)
    (case z16 => k_is)
    (case z17 => k_is)
    (case z18 => k_is)
    (case z19 => k_is)

