import PyProof.Rows.All
import Wide.All
import OpenK.AllK
import Wide.FinOn
import HandS.Base
import HandS.Call
import HandS.List
import HandS.Comp
import HandS.Iter
import HandS.Words
import HandS.TupAny
import HandS.TupLe
import HandS.Style
import HandS.IsInst
import HandS.Deep
import HandS.Conv
import HandS.SortInts
import HandS.Exc
import HandS.TryOnly
import HandS.ExcOwn
import HandS.WordsExc
import HandS.Defaults
import KE.GoesEnum
import KE.GoesEnumKw
import HandS.Zip
import HandS.SortKw
import HandS.HeadEnd
import KE.KStateDown
import HandS.Ends
import HandS.More
import HandS.Head0
import HandS.Head1
import HandS.Head2
import HandS.HeadHook1
import HandS.HeadHook2
import PySem.Challenge.RW_twinriddles_k21_turnings_looked_at
set_option Elab.async false
set_option linter.all false
set_option maxRecDepth 100000
set_option maxHeartbeats 4000000
/-! VS: values instead of heaps. What is frozen is read out of a part F of the heap that only grows. -/
namespace VS
open PySem PySem.Spec PyProof.Rows L2

abbrev D := PyData
def keyD : Key → D
  | .inl i => .int i
  | .inr x => .str x

mutual
def Rp (K : PySem.W.Frag) (F : Hp) : D → V → Prop
  | .none, v => v = .non
  | .bool b, v => v = .bl b
  | .int i, v => v = .int i
  | .str x, v => v = .str x
  | .list ds, v => ∃ a xs, v = .ref a ∧ Rd F a (.lst xs) ∧ xs.length ≤ sizeLine ∧ RpAll K F ds xs
  | .tuple ds, v => ∃ a xs, v = .ref a ∧ F a = some (.tup xs) ∧ xs.length ≤ sizeLine ∧ RpAll K F ds xs
  | .dict kvs, v => ∃ a kv, v = .ref a ∧ F a = some (.dK kv) ∧ RpKv K F kvs kv
def RpAll (K : PySem.W.Frag) (F : Hp) : List D → List V → Prop
  | [], xs => xs = []
  | d :: ds, xs => ∃ y ys, xs = y :: ys ∧ Rp K F d y ∧ RpAll K F ds ys
def RpKv (K : PySem.W.Frag) (F : Hp) : List (D × D) → List (Key × V) → Prop
  | [], kv => kv = []
  | (k, d) :: r, kv => ∃ k' v r', kv = (k', v) :: r' ∧ k = keyD k' ∧ Rp K F d v ∧ RpKv K F r r'
end

theorem rd_same {H H' : Hp} {a : Addr} {u : HO} (e : Same H H') (h : Rd H a u) : Rd H' a u := by
  rcases h with h | ⟨o, h⟩
  · exact .inl (e _ _ h)
  · exact .inr ⟨o, e _ _ h⟩

section
variable {K : PySem.W.Frag} {F F' : Hp}
mutual
theorem Rp.mono (s : Same F F') : ∀ {d : D} {v : V}, Rp K F d v → Rp K F' d v
  | .none, _, h => h
  | .bool _, _, h => h
  | .int _, _, h => h
  | .str _, _, h => h
  | .list ds, v, h => by
    obtain ⟨a, xs, e, q, z, r⟩ := (show ∃ a xs, v = .ref a ∧ Rd F a (.lst xs) ∧ xs.length ≤ sizeLine ∧ RpAll K F ds xs from h)
    exact ⟨a, xs, e, rd_same s q, z, RpAll.mono s r⟩
  | .tuple ds, v, h => by
    obtain ⟨a, xs, e, q, z, r⟩ := (show ∃ a xs, v = .ref a ∧ F a = some (.tup xs) ∧ xs.length ≤ sizeLine ∧ RpAll K F ds xs from h)
    exact ⟨a, xs, e, s _ _ q, z, RpAll.mono s r⟩
  | .dict kvs, v, h => by
    obtain ⟨a, kv, e, q, r⟩ := (show ∃ a kv, v = .ref a ∧ F a = some (.dK kv) ∧ RpKv K F kvs kv from h)
    exact ⟨a, kv, e, s _ _ q, RpKv.mono s r⟩
theorem RpAll.mono (s : Same F F') : ∀ {ds : List D} {vs : List V}, RpAll K F ds vs → RpAll K F' ds vs
  | [], _, h => h
  | d :: ds, vs, h => by
    obtain ⟨y, ys, e, r, q⟩ := (show ∃ y ys, vs = y :: ys ∧ Rp K F d y ∧ RpAll K F ds ys from h)
    exact ⟨y, ys, e, Rp.mono s r, RpAll.mono s q⟩
theorem RpKv.mono (s : Same F F') : ∀ {ds : List (D × D)} {vs : List (Key × V)}, RpKv K F ds vs → RpKv K F' ds vs
  | [], _, h => h
  | (k, d) :: ds, vs, h => by
    obtain ⟨k', v, r', e, ek, r, q⟩ := (show ∃ k' v r', vs = (k', v) :: r' ∧ k = keyD k' ∧ Rp K F d v ∧ RpKv K F ds r' from h)
    exact ⟨k', v, r', e, ek, Rp.mono s r, RpKv.mono s q⟩
end
theorem RpAll.nil : RpAll K F [] [] := rfl
theorem RpAll.cons {d : D} {v : V} {ds : List D} {vs : List V} (r : Rp K F d v) (q : RpAll K F ds vs) : RpAll K F (d :: ds) (v :: vs) := ⟨v, vs, rfl, r, q⟩
theorem RpAll.len : ∀ {ds : List D} {vs : List V}, RpAll K F ds vs → ds.length = vs.length
  | [], _, h => by cases h; rfl
  | d :: ds, vs, ⟨y, ys, e, r, q⟩ => by subst e; simp [RpAll.len q]
theorem RpAll.get : ∀ {ds : List D} {vs : List V} {i : Nat} {v : V}, RpAll K F ds vs → vs[i]? = some v → ∃ d, ds[i]? = some d ∧ Rp K F d v
  | [], vs, i, v, h, e => by cases h; simp at e
  | d :: ds, vs, i, v, ⟨y, ys, e', r, q⟩, e => by
    subst e'
    cases i with
    | zero => simp at e; subst e; exact ⟨d, rfl, r⟩
    | succ i => simpa using RpAll.get q (by simpa using e)
theorem RpAll.get' : ∀ {ds : List D} {vs : List V} {i : Nat} {d : D}, RpAll K F ds vs → ds[i]? = some d → ∃ v, vs[i]? = some v ∧ Rp K F d v
  | [], vs, i, v, h, e => by simp at e
  | d :: ds, vs, i, v, ⟨y, ys, e', r, q⟩, e => by
    subst e'
    cases i with
    | zero => simp at e; subst e; exact ⟨y, rfl, r⟩
    | succ i => simpa using RpAll.get' q (by simpa using e)
theorem RpAll.append : ∀ {ds es : List D} {vs ws : List V}, RpAll K F ds vs → RpAll K F es ws → RpAll K F (ds ++ es) (vs ++ ws)
  | [], es, vs, ws, h, g => by cases h; exact g
  | d :: ds, es, vs, ws, ⟨y, ys, e', r, q⟩, g => by subst e'; exact ⟨y, ys ++ ws, rfl, r, RpAll.append q g⟩
theorem RpAll.take : ∀ (n : Nat) {ds : List D} {vs : List V}, RpAll K F ds vs → RpAll K F (ds.take n) (vs.take n)
  | 0, ds, vs, h => by simp; rfl
  | n + 1, [], vs, h => by cases h; exact rfl
  | n + 1, d :: ds, vs, ⟨y, ys, e', r, q⟩ => by subst e'; exact ⟨y, _, rfl, r, RpAll.take n q⟩
theorem RpAll.drop : ∀ (n : Nat) {ds : List D} {vs : List V}, RpAll K F ds vs → RpAll K F (ds.drop n) (vs.drop n)
  | 0, ds, vs, h => h
  | n + 1, [], vs, h => by cases h; exact rfl
  | n + 1, d :: ds, vs, ⟨y, ys, e', r, q⟩ => by subst e'; exact RpAll.drop n q
theorem RpAll.set : ∀ (i : Nat) {ds : List D} {vs : List V} {d : D} {v : V}, RpAll K F ds vs → Rp K F d v → RpAll K F (ds.set i d) (vs.set i v)
  | _, [], vs, d, v, h, r => by cases h; exact rfl
  | 0, d :: ds, vs, _, _, ⟨y, ys, e', r, q⟩, r' => by subst e'; exact ⟨_, _, rfl, r', q⟩
  | i + 1, d :: ds, vs, _, _, ⟨y, ys, e', r, q⟩, r' => by subst e'; exact ⟨_, _, rfl, r, RpAll.set i q r'⟩
theorem RpAll.erase : ∀ (i : Nat) {ds : List D} {vs : List V}, RpAll K F ds vs → RpAll K F (ds.eraseIdx i) (vs.eraseIdx i)
  | _, [], vs, h => by cases h; exact rfl
  | 0, d :: ds, vs, ⟨y, ys, e', r, q⟩ => by subst e'; exact q
  | i + 1, d :: ds, vs, ⟨y, ys, e', r, q⟩ => by subst e'; exact ⟨_, _, rfl, r, RpAll.erase i q⟩
theorem RpAll.reverse : ∀ {ds : List D} {vs : List V}, RpAll K F ds vs → RpAll K F ds.reverse vs.reverse
  | [], vs, h => by cases h; exact rfl
  | d :: ds, vs, ⟨y, ys, e', r, q⟩ => by subst e'; simp only [List.reverse_cons]; exact (RpAll.reverse q).append (.cons r .nil)
theorem RpAll.dropLast {ds : List D} {vs : List V} (h : RpAll K F ds vs) : RpAll K F ds.dropLast vs.dropLast := by
  rw [List.dropLast_eq_take, List.dropLast_eq_take, h.len]; exact h.take _
theorem RpAll.ints : ∀ {ns : List Int} {vs : List V}, RpAll K F (ns.map PyData.int) vs → vs = ns.map V.int
  | [], vs, h => by cases h; rfl
  | n :: ns, vs, ⟨y, ys, e', r, q⟩ => by subst e'; cases r; simp [RpAll.ints q]
theorem RpAll.bools : ∀ {ns : List Bool} {vs : List V}, RpAll K F (ns.map PyData.bool) vs → vs = ns.map V.bl
  | [], vs, h => by cases h; rfl
  | n :: ns, vs, ⟨y, ys, e', r, q⟩ => by subst e'; cases r; simp [RpAll.bools q]
theorem RpAll.of_ints : ∀ (ns : List Int), RpAll K F (ns.map PyData.int) (ns.map V.int)
  | [] => rfl
  | n :: ns => ⟨_, _, rfl, rfl, RpAll.of_ints ns⟩
theorem RpAll.of_bools : ∀ (ns : List Bool), RpAll K F (ns.map PyData.bool) (ns.map V.bl)
  | [] => rfl
  | n :: ns => ⟨_, _, rfl, rfl, RpAll.of_bools ns⟩
end

/-! ### the state -/
inductive Sl where
  | emp
  | val (d : D)
  /-- the script -/
  | scr (ns : List Int)
  /-- a list of one's own, not frozen -/
  | own (ds : List D)
  /-- a dict of one's own whose keys are tuples (of ints and texts) -/
  | dT (kvs : List (List Key × D))
  /-- a dict of one's own whose keys are ints and texts -/
  | dK (kvs : List (Key × D))
def Sl.isOwn : Sl → Bool
  | .own _ => true
  | .dT _ => true
  | .dK _ => true
  | _ => false
abbrev En := List Sl
inductive Res (α : Type) where
  | ok (a : α)
  | exc (c : Str)
  | bad
def Res.bind {α β : Type} : Res α → (α → Res β) → Res β
  | .ok a, f => f a
  | .exc c, _ => .exc c
  | .bad, _ => .bad
instance : Monad Res where
  pure := Res.ok
  bind := Res.bind
def M (α : Type) := En → Res (α × En)
def M.bind {α β : Type} (m : M α) (f : α → M β) : M β := fun ρ => (m ρ).bind fun p => f p.1 p.2
instance : Monad M where
  pure a := fun ρ => .ok (a, ρ)
  bind := M.bind
def M.lift {α : Type} (r : Res α) : M α := fun ρ => r.bind fun a => .ok (a, ρ)

/-- what a def's body keeps to: rf the list that it may change, Ex what is wanted of an exception -/
structure SC where
  rf : Option Addr
  Ex : Str → Hp → Prop
/-- what is kept: of the heap b the part f is frozen, the rest stays what it is, too, but nobody need know it -/
structure Bs where
  b : Hp
  f : Hp
def Kp (C : SC) (B : Bs) (H : Hp) : Prop := ∀ a o, B.b a = some o → C.rf ≠ some a → H a = some o

def KvAll {κ : Type} (K : PySem.W.Frag) (F : Hp) (ds : List (κ × D)) (vs : List (κ × V)) : Prop := ds.map (·.1) = vs.map (·.1) ∧ RpAll K F (ds.map (·.2)) (vs.map (·.2))
def At (C : SC) (B : Bs) (F : Hp) (p : Addr) : Prop := F p = none ∧ (B.b p = none ∨ C.rf = some p)
def SlOk (K : PySem.W.Frag) (C : SC) (B : Bs) (F H : Hp) : Sl → Option V → Prop
  | .emp, _ => True
  | .val d, v => ∃ x, v = some x ∧ Rp K F d x
  | .scr ns, v => ∃ a, v = some (.ref a) ∧ SqL K F a (ns.map V.int)
  | .own ds, v => ∃ p xs, v = some (.ref p) ∧ H p = some (.lst xs) ∧ RpAll K F ds xs ∧ At C B F p ∧ xs.length ≤ sizeLine
  | .dT ds, v => ∃ p xs, v = some (.ref p) ∧ H p = some (.dT xs) ∧ KvAll K F ds xs ∧ At C B F p
  | .dK ds, v => ∃ p xs, v = some (.ref p) ∧ H p = some (.dK xs) ∧ KvAll K F ds xs ∧ At C B F p
def OwnAt (σ : L2.St) (ρ : En) (i : Nat) (p : Addr) : Prop := ∃ s, ρ[i]? = some s ∧ s.isOwn = true ∧ σ[i]? = some (some (.ref p))
structure SR (K : PySem.W.Frag) (C : SC) (B : Bs) (F : Hp) (σ : L2.St) (H : Hp) (ρ : En) : Prop where
  fr : Same F H
  nf : ∀ a u, B.b a = some u → B.f a = none → F a = none
  kp : Kp C B H
  len : σ.length = ρ.length
  sl : ∀ (i : Nat) (s : Sl) (v : Option V), ρ[i]? = some s → σ[i]? = some v → SlOk K C B F H s v
  ap : ∀ i j p, OwnAt σ ρ i p → OwnAt σ ρ j p → i = j
  rf : ∀ p, C.rf = some p → σ[0]? = some (some (.ref p)) ∧ ∃ ds, ρ[0]? = some (.own ds)

section
variable {K : PySem.W.Frag} {C : SC} {B : Bs} {F F' : Hp} {σ : L2.St} {H H' : Hp} {ρ : En} {p : Addr} {o : HO}
theorem same_upd (h : H p = none) : Same H (upd H p o) := fun b u e => by rw [upd_ne (ne_of_none e h)]; exact e
theorem same_upd2 (s : Same F H) : Same (upd F p o) (upd H p o) := fun b u e => by
  by_cases hb : b = p
  · subst hb; rw [upd_same] at e ⊢; exact e
  · rw [upd_ne hb] at e ⊢; exact s _ _ e
theorem SR.fresh (S : SR K C B F σ H ρ) (h : H p = none) : F p = none ∧ B.b p = none := by
  refine ⟨S.fr.free h, ?_⟩
  cases e : B.b p with
  | none => rfl
  | some u =>
    by_cases r : C.rf = some p
    · obtain ⟨e1, ds, e2⟩ := S.rf p r
      obtain ⟨q, xs, e3, e4, _⟩ := S.sl 0 _ _ e2 e1
      cases e3
      rw [h] at e4; cases e4
    · have := S.kp p u e r
      rw [h] at this; cases this
/-- slots hold when what is not an own list's address is kept -/
theorem SlOk.mono {s : Sl} {v : Option V} (h : SlOk K C B F H s v) (sf : Same F F') (k : ∀ q u, v = some (.ref q) → s.isOwn = true → H q = some u → H' q = some u) (nf : ∀ q, v = some (.ref q) → s.isOwn = true → F q = none → F' q = none) : SlOk K C B F' H' s v := by
  cases s with
  | emp => trivial
  | val d => obtain ⟨x, e, r⟩ := h; exact ⟨x, e, r.mono sf⟩
  | scr ns => obtain ⟨x, e, r⟩ := h; exact ⟨x, e, sf.seq r⟩
  | own ds => obtain ⟨q, xs, e, e1, r, ⟨e2, e3⟩, z⟩ := h; exact ⟨q, xs, e, k _ _ e rfl e1, r.mono sf, ⟨nf _ e rfl e2, e3⟩, z⟩
  | dT ds => obtain ⟨q, xs, e, e1, r, e2, e3⟩ := h; exact ⟨q, xs, e, k _ _ e rfl e1, ⟨r.1, r.2.mono sf⟩, nf _ e rfl e2, e3⟩
  | dK ds => obtain ⟨q, xs, e, e1, r, e2, e3⟩ := h; exact ⟨q, xs, e, k _ _ e rfl e1, ⟨r.1, r.2.mono sf⟩, nf _ e rfl e2, e3⟩
theorem SlOk.there {s : Sl} {q : Addr} (h : SlOk K C B F H s (some (.ref q))) (o : s.isOwn = true) : ∃ u, H q = some u := by
  cases s with
  | emp => cases o
  | val d => cases o
  | scr _ => cases o
  | own ds => obtain ⟨_, xs, e, e1, _⟩ := h; cases e; exact ⟨_, e1⟩
  | dT ds => obtain ⟨_, xs, e, e1, _⟩ := h; cases e; exact ⟨_, e1⟩
  | dK ds => obtain ⟨_, xs, e, e1, _⟩ := h; cases e; exact ⟨_, e1⟩
/-- all is kept, the frozen part grows by what was not there -/
theorem SR.grow (S : SR K C B F σ H ρ) (sh : Same H H') (sf : Same F F') (fr : Same F' H') (nf : ∀ q u, H q = some u → F q = none → F' q = none) : SR K C B F' σ H' ρ :=
  ⟨fr, fun a u e f => by
    by_cases r : C.rf = some a
    · obtain ⟨e1, ds, e2⟩ := S.rf a r
      obtain ⟨q, xs, e3, e4, _, ⟨e5, _⟩, _⟩ := S.sl 0 _ _ e2 e1
      cases e3
      exact nf _ _ e4 e5
    · exact nf a u (S.kp a u e r) (S.nf a u e f), fun a o e r => sh _ _ (S.kp a o e r), S.len, fun i s v e1 e2 => (S.sl i s v e1 e2).mono sf (fun _ _ _ _ e => sh _ _ e) (fun q e os n => by
    obtain ⟨u, hu⟩ := SlOk.there (q := q) (by rw [← e]; exact S.sl i s v e1 e2) os
    exact nf q u hu n), S.ap, S.rf⟩
/-- a new frozen object -/
theorem SR.alloc (S : SR K C B F σ H ρ) (h : H p = none) : SR K C B (upd F p o) σ (upd H p o) ρ :=
  S.grow (same_upd h) (same_upd (S.fresh h).1) (same_upd2 S.fr) fun q u e n => by rw [upd_ne (ne_of_none e h)]; exact n
/-- a new object that is not frozen -/
theorem SR.alloc0 (S : SR K C B F σ H ρ) (h : H p = none) : SR K C B F σ (upd H p o) ρ :=
  S.grow (same_upd h) (Same.refl _) (fun a u e => by rw [upd_ne (ne_of_none (S.fr _ _ e) h)]; exact S.fr _ _ e) fun q u _ n => n
end

/-! ### readings -/
def RX {α : Type} (C : SC) (B : Bs) (Φ : α → En → Prop) (r : Res (α × En)) : Prop := match r with
  | .ok (a, ρ) => Φ a ρ
  | .exc c => ∀ H', Kp C B H' → C.Ex c H'
  | .bad => False
/-- what follows a value -/
def PD (K : PySem.W.Frag) (C : SC) (B : Bs) (σ : L2.St) (F : Hp) (Q : VK) (d : D) (ρ : En) : Prop := ∀ v F' H', Same F F' → SR K C B F' σ H' ρ → Rp K F' d v → Q v H'
/-- what follows a new list that nobody else holds -/
def PO (K : PySem.W.Frag) (C : SC) (B : Bs) (σ : L2.St) (F : Hp) (Q : VK) (ds : List D) (ρ : En) : Prop :=
  ∀ p xs F' H', Same F F' → SR K C B F' σ H' ρ → F' p = none → B.b p = none → (∀ i, ¬ OwnAt σ ρ i p) → H' p = some (.lst xs) → xs.length ≤ sizeLine → RpAll K F' ds xs → Q (.ref p) H'
def PB (K : PySem.W.Frag) (C : SC) (B : Bs) (σ : L2.St) (F : Hp) (Q : Bool → Hp → Prop) (b : Bool) (ρ : En) : Prop := ∀ F' H', Same F F' → SR K C B F' σ H' ρ → Q b H'
def PAs (K : PySem.W.Frag) (C : SC) (B : Bs) (σ : L2.St) (F : Hp) (Q : List V → Hp → Prop) (ds : List D) (ρ : En) : Prop := ∀ vs F' H', Same F F' → SR K C B F' σ H' ρ → RpAll K F' ds vs → Q vs H'
/-- what a statement comes to -/
inductive Fl where
  | nx
  | rt (d : D)
  /-- a new list, to be the caller's own -/
  | ro (ds : List D)
  | bk
  | ct
def PF (K : PySem.W.Frag) (C : SC) (B : Bs) (F : Hp) (E : Ends) (f : Fl) (ρ : En) : Prop := match f with
  | .nx => ∀ σ' F' H', Same F F' → SR K C B F' σ' H' ρ → E.nx σ' H'
  | .rt d => ∀ v σ' F' H', Same F F' → SR K C B F' σ' H' ρ → Rp K F' d v → E.rt v H'
  | .ro ds => ∀ p xs σ' F' H', Same F F' → SR K C B F' σ' H' ρ → F' p = none → B.b p = none → H' p = some (.lst xs) → xs.length ≤ sizeLine → RpAll K F' ds xs → E.rt (.ref p) H'
  | .bk => ∀ σ' F' H', Same F F' → SR K C B F' σ' H' ρ → E.bk σ' H'
  | .ct => ∀ σ' F' H', Same F F' → SR K C B F' σ' H' ρ → E.ct σ' H'
def tM (K : PySem.W.Frag) (C : SC) (m : M D) : TE := fun σ H Q => ∃ B F ρ, SR K C B F σ H ρ ∧ RX C B (PD K C B σ F Q) (m ρ)
def tO (K : PySem.W.Frag) (C : SC) (m : M (List D)) : TE := fun σ H Q => ∃ B F ρ, SR K C B F σ H ρ ∧ RX C B (PO K C B σ F Q) (m ρ)
def tB (K : PySem.W.Frag) (C : SC) (m : M Bool) : TT := fun σ H Q => ∃ B F ρ, SR K C B F σ H ρ ∧ RX C B (PB K C B σ F Q) (m ρ)
def tA (K : PySem.W.Frag) (C : SC) (m : M (List D)) : TA := fun σ H Q => ∃ B F ρ, SR K C B F σ H ρ ∧ RX C B (PAs K C B σ F Q) (m ρ)
def tS (K : PySem.W.Frag) (C : SC) (m : M Fl) : TS := fun E σ H => ∃ B F ρ, SR K C B F σ H ρ ∧ RX C B (PF K C B F E) (m ρ)

section
variable {K : PySem.W.Frag} {C : SC} {B : Bs} {F F' : Hp} {σ : L2.St} {H H' : Hp} {ρ : En} {Q Q' : VK}
theorem RX.imp {α : Type} {Φ Ψ : α → En → Prop} {r : Res (α × En)} (h : RX C B Φ r) (k : ∀ a ρ, Φ a ρ → Ψ a ρ) : RX C B Ψ r := by
  cases r with
  | ok p => exact k _ _ h
  | exc c => exact h
  | bad => exact h
theorem RX.bind {α β : Type} {Φ : β → En → Prop} {m : M α} {f : α → M β} (h : RX C B Φ ((m >>= f) ρ)) : RX C B (fun a ρ1 => RX C B Φ (f a ρ1)) (m ρ) := by
  have h' : RX C B Φ ((m ρ).bind fun p => f p.1 p.2) := h
  cases e : m ρ with
  | ok p => rw [e] at h'; exact h'
  | exc c => rw [e] at h'; exact h'
  | bad => rw [e] at h'; exact h'
theorem PD.mono (s : Same F F') {d : D} (h : PD K C B σ F Q d ρ) : PD K C B σ F' Q d ρ := fun v F2 H2 s2 => h v F2 H2 (s.trans s2)
theorem PO.mono (s : Same F F') {d : List D} (h : PO K C B σ F Q d ρ) : PO K C B σ F' Q d ρ := fun v xs F2 H2 s2 => h v xs F2 H2 (s.trans s2)
theorem PB.mono (s : Same F F') {d : Bool} {Q : Bool → Hp → Prop} (h : PB K C B σ F Q d ρ) : PB K C B σ F' Q d ρ := fun F2 H2 s2 => h F2 H2 (s.trans s2)
theorem PAs.mono (s : Same F F') {d : List D} {Q : List V → Hp → Prop} (h : PAs K C B σ F Q d ρ) : PAs K C B σ F' Q d ρ := fun v F2 H2 s2 => h v F2 H2 (s.trans s2)
theorem PF.mono (s : Same F F') {f : Fl} {E : Ends} (h : PF K C B F E f ρ) : PF K C B F' E f ρ := by
  cases f with
  | nx => exact fun σ F2 H2 s2 => h σ F2 H2 (s.trans s2)
  | rt d => exact fun v σ F2 H2 s2 => h v σ F2 H2 (s.trans s2)
  | ro ds => exact fun p xs σ F2 H2 s2 => h p xs σ F2 H2 (s.trans s2)
  | bk => exact fun σ F2 H2 s2 => h σ F2 H2 (s.trans s2)
  | ct => exact fun σ F2 H2 s2 => h σ F2 H2 (s.trans s2)
theorem tM.of (S : SR K C B F σ H ρ) {m : M D} {Φ : D → En → Prop} (h : RX C B Φ (m ρ)) (k : ∀ d ρ1, Φ d ρ1 → PD K C B σ F Q d ρ1) : tM K C m σ H Q := ⟨B, F, ρ, S, h.imp k⟩
theorem tO.of (S : SR K C B F σ H ρ) {m : M (List D)} {Φ : List D → En → Prop} (h : RX C B Φ (m ρ)) (k : ∀ d ρ1, Φ d ρ1 → PO K C B σ F Q d ρ1) : tO K C m σ H Q := ⟨B, F, ρ, S, h.imp k⟩
theorem tB.of (S : SR K C B F σ H ρ) {m : M Bool} {Q : Bool → Hp → Prop} {Φ : Bool → En → Prop} (h : RX C B Φ (m ρ)) (k : ∀ d ρ1, Φ d ρ1 → PB K C B σ F Q d ρ1) : tB K C m σ H Q := ⟨B, F, ρ, S, h.imp k⟩
theorem tA.of (S : SR K C B F σ H ρ) {m : M (List D)} {Q : List V → Hp → Prop} {Φ : List D → En → Prop} (h : RX C B Φ (m ρ)) (k : ∀ d ρ1, Φ d ρ1 → PAs K C B σ F Q d ρ1) : tA K C m σ H Q := ⟨B, F, ρ, S, h.imp k⟩
theorem tS.of (S : SR K C B F σ H ρ) {m : M Fl} {E : Ends} {Φ : Fl → En → Prop} (h : RX C B Φ (m ρ)) (k : ∀ d ρ1, Φ d ρ1 → PF K C B F E d ρ1) : tS K C m E σ H := ⟨B, F, ρ, S, h.imp k⟩
end
section
variable {X : Cx} {e : Expr} {s : Stmt} {ss : List Stmt}
theorem pe_imp {t t' : TE} (h : PE X e t) (k : ∀ σ H Q, t' σ H Q → t σ H Q) : PE X e t' := ⟨fun pins s σ H Q I q => h.run pins s σ H Q I (k σ H Q q)⟩
theorem pt_imp {t t' : TT} (h : PT X e t) (k : ∀ σ H Q, t' σ H Q → t σ H Q) : PT X e t' := ⟨fun pins s σ H Q I q => h.run pins s σ H Q I (k σ H Q q)⟩
theorem pw_imp {t t' : TT} (h : PW X e t) (k : ∀ σ H Q, t' σ H Q → t σ H Q) : PW X e t' := ⟨fun wh pins s σ H Q I q => h.run wh pins s σ H Q I (k σ H Q q)⟩
theorem pa_imp {es : List Expr} {t t' : TA} (h : PA X es t) (k : ∀ σ H Q, t' σ H Q → t σ H Q) : PA X es t' := ⟨fun pos pins s σ H Q I q => h.run pos pins s σ H Q I (k σ H Q q)⟩
theorem ps_imp {t t' : TS} (h : PS X s t) (k : ∀ E σ H, t' E σ H → t E σ H) : PS X s t' := ⟨fun pins s σ H E I q => h.run pins s σ H E I (k E σ H q)⟩
theorem pss_imp {t t' : TS} (h : PSs X ss t) (k : ∀ E σ H, t' E σ H → t E σ H) : PSs X ss t' := ⟨fun pins s σ H E I q => h.run pins s σ H E I (k E σ H q)⟩
end

/-! ### one operation on values -/
/-- a value as it is at the moment: frozen, or a list that is still somebody's own -/
def RpV (K : PySem.W.Frag) (F H : Hp) (d : D) (v : V) : Prop := Rp K F d v ∨ ∃ p xs ds, d = .list ds ∧ v = .ref p ∧ H p = some (.lst xs) ∧ xs.length ≤ sizeLine ∧ RpAll K F ds xs
/-- an operand: what is done first, then how it is looked at when the operation comes -/
def LateOk (K : PySem.W.Frag) (C : SC) (B : Bs) (σ : L2.St) (F : Hp) (l : M D) (v : V) : Prop := ∀ F2 H2 ρ2, Same F F2 → SR K C B F2 σ H2 ρ2 → match l ρ2 with
  | .ok (d, ρ') => ρ' = ρ2 ∧ RpV K F2 H2 d v
  | .exc _ => False
  | .bad => True
theorem LateOk.mono {K : PySem.W.Frag} {C : SC} {B : Bs} {σ : L2.St} {F F' : Hp} {l : M D} {v : V} (h : LateOk K C B σ F l v) (s : Same F F') : LateOk K C B σ F' l v := fun F2 H2 ρ2 s2 => h F2 H2 ρ2 (s.trans s2)
def PL (K : PySem.W.Frag) (C : SC) (B : Bs) (σ : L2.St) (F : Hp) (Q : VK) (l : M D) (ρ : En) : Prop := ∀ v F' H', Same F F' → SR K C B F' σ H' ρ → LateOk K C B σ F' l v → Q v H'
def tL (K : PySem.W.Frag) (C : SC) (m : M (M D)) : TE := fun σ H Q => ∃ B F ρ, SR K C B F σ H ρ ∧ RX C B (PL K C B σ F Q) (m ρ)
theorem tL.of {K : PySem.W.Frag} {C : SC} {B : Bs} {F : Hp} {σ : L2.St} {H : Hp} {ρ : En} {Q : VK} (S : SR K C B F σ H ρ) {m : M (M D)} {Φ : M D → En → Prop} (h : RX C B Φ (m ρ)) (k : ∀ d ρ1, Φ d ρ1 → PL K C B σ F Q d ρ1) : tL K C m σ H Q := ⟨B, F, ρ, S, h.imp k⟩
def eVl (m : M D) : M (M D) := m >>= fun d => pure (pure d)
/-- a name's value, as it is -/
def eAt (i : Nat) : M D := fun ρ => match ρ[i]? with
  | some (.val d) => .ok (d, ρ)
  | some (.own ds) => .ok (.list ds, ρ)
  | _ => .bad
def eNm (i : Nat) : M (M D) := fun ρ => match ρ[i]? with
  | some (.val _) => .ok (eAt i, ρ)
  | some (.own _) => .ok (eAt i, ρ)
  | _ => .bad
section
variable {X : Cx} {C : SC} {B : Bs} {a b c : Expr} {ma mb mc : M (M D)} {pos : Pos}
/-- what a step on values asks: from what is wanted of the result to the reading r -/
def Op1 (X : Cx) (C : SC) (g : D → Res D) (r : V → Hp → VK → Prop) : Prop := ∀ B F σ H ρ x d Q, SR X.K C B F σ H ρ → RpV X.K F H d x → RX C B (PD X.K C B σ F Q) (M.lift (g d) ρ) → r x H Q
def Op2 (X : Cx) (C : SC) (g : D → D → Res D) (r : R2) : Prop := ∀ B F σ H ρ x y d e Q, SR X.K C B F σ H ρ → RpV X.K F H d x → RpV X.K F H e y → RX C B (PD X.K C B σ F Q) (M.lift (g d e) ρ) → r x y H Q
def Op1O (X : Cx) (C : SC) (g : D → Res (List D)) (r : V → Hp → VK → Prop) : Prop := ∀ B F σ H ρ x d Q, SR X.K C B F σ H ρ → RpV X.K F H d x → RX C B (PO X.K C B σ F Q) (M.lift (g d) ρ) → r x H Q
def Op2O (X : Cx) (C : SC) (g : D → D → Res (List D)) (r : R2) : Prop := ∀ B F σ H ρ x y d e Q, SR X.K C B F σ H ρ → RpV X.K F H d x → RpV X.K F H e y → RX C B (PO X.K C B σ F Q) (M.lift (g d e) ρ) → r x y H Q
def OpD (X : Cx) (C : SC) (f : Value → Value → Sem Value) (g : D → D → Res D) : Prop := ∃ r, OpR X f r ∧ Op2 X C g r
def OpO (X : Cx) (C : SC) (f : Value → Value → Sem Value) (g : D → D → Res (List D)) : Prop := ∃ r, OpR X f r ∧ Op2O X C g r
def e1 {α : Type} (g : D → Res α) (ma : M (M D)) : M α := ma >>= fun x => x >>= fun x => M.lift (g x)
def e2 {α : Type} (g : D → D → Res α) (ma mb : M (M D)) : M α := ma >>= fun x => mb >>= fun y => x >>= fun x => y >>= fun y => M.lift (g x y)
theorem late_step {α : Type} {σ : L2.St} {F : Hp} {H : Hp} {ρ : En} {l : M D} {v : V} {Φ : α → En → Prop} {f : D → M α} (S : SR X.K C B F σ H ρ) (L : LateOk X.K C B σ F l v) (h : RX C B Φ ((l >>= f) ρ)) :
    ∃ d, RpV X.K F H d v ∧ RX C B Φ (f d ρ) := by
  have q := L F H ρ (Same.refl _) S
  have h' := h.bind
  cases e : l ρ with
  | ok p =>
    obtain ⟨d, ρ'⟩ := p
    rw [e] at q h'
    obtain ⟨rfl, r⟩ := q
    exact ⟨d, r, h'⟩
  | exc c => rw [e] at q; exact q.elim
  | bad => rw [e] at h'; exact h'.elim
theorem e2_read {g : D → D → Res D} {r : R2} (k : Op2 X C g r) {σ : L2.St} {H : Hp} {Q : VK} (h : tM X.K C (e2 g ma mb) σ H Q) : tOp r (tL X.K C ma) (tL X.K C mb) σ H Q := by
  obtain ⟨B, F, ρ, S, h⟩ := h
  refine tL.of S h.bind fun la ρ1 h1 v F1 H1 s1 S1 r1 => ?_
  refine tL.of S1 h1.bind fun lb ρ2 h2 u F2 H2 s2 S2 r2 => ?_
  obtain ⟨d, rd, h3⟩ := late_step S2 (r1.mono s2) h2
  obtain ⟨e, re, h4⟩ := late_step S2 r2 h3
  exact k B F2 σ H2 ρ2 v u d e Q S2 rd re (h4.imp fun _ _ q => q.mono (s1.trans s2))
theorem e2O_read {g : D → D → Res (List D)} {r : R2} (k : Op2O X C g r) {σ : L2.St} {H : Hp} {Q : VK} (h : tO X.K C (e2 g ma mb) σ H Q) : tOp r (tL X.K C ma) (tL X.K C mb) σ H Q := by
  obtain ⟨B, F, ρ, S, h⟩ := h
  refine tL.of S h.bind fun la ρ1 h1 v F1 H1 s1 S1 r1 => ?_
  refine tL.of S1 h1.bind fun lb ρ2 h2 u F2 H2 s2 S2 r2 => ?_
  obtain ⟨d, rd, h3⟩ := late_step S2 (r1.mono s2) h2
  obtain ⟨e, re, h4⟩ := late_step S2 r2 h3
  exact k B F2 σ H2 ρ2 v u d e Q S2 rd re (h4.imp fun _ _ q => q.mono (s1.trans s2))
theorem e1_read {g : D → Res D} {r : V → Hp → VK → Prop} (k : Op1 X C g r) {σ : L2.St} {H : Hp} {Q : VK} (h : tM X.K C (e1 g ma) σ H Q) : tL X.K C ma σ H (fun x H1 => r x H1 Q) := by
  obtain ⟨B, F, ρ, S, h⟩ := h
  refine tL.of S h.bind fun la ρ1 h1 v F1 H1 s1 S1 r1 => ?_
  obtain ⟨d, rd, h3⟩ := late_step S1 r1 h1
  exact k B F1 σ H1 ρ1 v d Q S1 rd (h3.imp fun _ _ q => q.mono s1)
theorem e1O_read {g : D → Res (List D)} {r : V → Hp → VK → Prop} (k : Op1O X C g r) {σ : L2.St} {H : Hp} {Q : VK} (h : tO X.K C (e1 g ma) σ H Q) : tL X.K C ma σ H (fun x H1 => r x H1 Q) := by
  obtain ⟨B, F, ρ, S, h⟩ := h
  refine tL.of S h.bind fun la ρ1 h1 v F1 H1 s1 S1 r1 => ?_
  obtain ⟨d, rd, h3⟩ := late_step S1 r1 h1
  exact k B F1 σ H1 ρ1 v d Q S1 rd (h3.imp fun _ _ q => q.mono s1)
theorem m_op {op : Operator} {g : D → D → Res D} (o : OpD X C (binaryOp op) g) (ha : PE X a (tL X.K C ma)) (hb : PE X b (tL X.K C mb)) : PE X (.BinOp a op b pos) (tM X.K C (e2 g ma mb)) :=
  let ⟨_, o1, k⟩ := o
  pe_imp (pe_op o1 ha hb) fun _ _ _ h => e2_read k h
theorem m_opO {op : Operator} {g : D → D → Res (List D)} (o : OpO X C (binaryOp op) g) (ha : PE X a (tL X.K C ma)) (hb : PE X b (tL X.K C mb)) : PE X (.BinOp a op b pos) (tO X.K C (e2 g ma mb)) :=
  let ⟨_, o1, k⟩ := o
  pe_imp (pe_op o1 ha hb) fun _ _ _ h => e2O_read k h
theorem m_cmp {op : CmpOp} {g : D → D → Res D} (o : OpD X C (compareOp op) g) (ha : PE X a (tL X.K C ma)) (hb : PE X b (tL X.K C mb)) (hm : behindInMarks op b = false) : PE X (.Compare a [op] [b] pos) (tM X.K C (e2 g ma mb)) :=
  let ⟨_, o1, k⟩ := o
  pe_imp (pe_cmpR o1 ha hb hm) fun _ _ _ h => e2_read k h
/-- a value as an operand -/
theorem m_vl {m : M D} (h : PE X a (tM X.K C m)) : PE X a (tL X.K C (eVl m)) := pe_imp h fun σ H Q q => by
  obtain ⟨B, F, ρ, S, q⟩ := q
  refine tM.of S q.bind fun d ρ1 h1 v F1 H1 s1 S1 r1 => ?_
  exact h1 v F1 H1 s1 S1 fun F2 H2 ρ2 s2 S2 => ⟨rfl, .inl (r1.mono s2)⟩
/-- a name as an operand -/
theorem m_nm (i : Nat) {x : Str} (hN : X.N[i]? = some x := by rfl) (hv : Vis X.env.scope x := by first | exact Or.inl rfl | exact Or.inr (Or.inl rfl) | exact Or.inr (Or.inr rfl)) (hd : (x == ("__debug__" : Str)) = false := by decide)
    (hcd : (x == ("__classdict__" : Str)) = false := by decide) : PE X (.Name x pos) (tL X.K C (eNm i)) := pe_imp (pe_var hN hv hd hcd) fun σ H Q q => by
  obtain ⟨B, F, ρ, S, q⟩ := q
  have key : ∀ v, σ[i]? = some (some v) → LateOk X.K C B σ F (eAt i) v := fun v ev F2 H2 ρ2 s2 S2 => by
    unfold eAt
    cases e2 : ρ2[i]? with
    | none => trivial
    | some s =>
      cases s with
      | val d =>
        obtain ⟨x, ex, r⟩ := S2.sl i _ _ e2 ev
        cases ex
        exact ⟨rfl, .inl r⟩
      | own ds =>
        obtain ⟨p, xs, ex, eh, r, _, z⟩ := S2.sl i _ _ e2 ev
        cases ex
        exact ⟨rfl, .inr ⟨p, xs, ds, rfl, rfl, eh, z, r⟩⟩
      | emp => trivial
      | scr _ => trivial
      | dT _ => trivial
      | dK _ => trivial
  have there : ∀ s, ρ[i]? = some s → ∃ v, σ[i]? = some v := fun s e => by
    have hlt := (List.getElem?_eq_some_iff.mp e).1
    have hl := S.len
    exact ⟨σ[i]'(by omega), by simp⟩
  cases e : ρ[i]? with
  | none => unfold eNm at q; rw [e] at q; exact q.elim
  | some s =>
    obtain ⟨v, ev⟩ := there s e
    unfold eNm at q
    rw [e] at q
    cases s with
    | val d =>
      obtain ⟨x, ex, r⟩ := S.sl i _ _ e ev
      subst ex
      exact ⟨x, ev, q x F H (Same.refl _) S (key x ev)⟩
    | own ds =>
      obtain ⟨p, xs, ex, _⟩ := S.sl i _ _ e ev
      subst ex
      exact ⟨_, ev, q _ F H (Same.refl _) S (key _ ev)⟩
    | emp => exact q.elim
    | scr _ => exact q.elim
    | dT _ => exact q.elim
    | dK _ => exact q.elim
end
end VS

set_option Elab.async false
set_option linter.all false
set_option maxRecDepth 100000
set_option maxHeartbeats 4000000
namespace VS
open PySem PySem.Spec PyProof.Rows L2

/-! ### from one form to another -/
section
variable {X : Cx} {C : SC} {B : Bs} {a b c : Expr} {pos : Pos}
theorem pd_now {K : PySem.W.Frag} {C : SC} {B : Bs} {F : Hp} {σ : L2.St} {H : Hp} {ρ : En} {Q : VK} {r : Res D} {d : D} (S : SR K C B F σ H ρ) (h : RX C B (PD K C B σ F Q) (M.lift r ρ)) (e : r = .ok d) {v : V} (q : Rp K F d v) : Q v H := by
  subst e
  exact h v F H (Same.refl _) S q
theorem pd_new {K : PySem.W.Frag} {C : SC} {B : Bs} {F : Hp} {σ : L2.St} {H : Hp} {ρ : En} {Q : VK} {r : Res D} {d : D} {p : Addr} {o : HO} (S : SR K C B F σ H ρ) (h : RX C B (PD K C B σ F Q) (M.lift r ρ)) (e : r = .ok d) (hp : H p = none) (q : Rp K (upd F p o) d (.ref p)) : Q (.ref p) (upd H p o) := by
  subst e
  exact h _ _ _ (same_upd (S.fresh hp).1) (S.alloc hp) q
theorem pd_bl {K : PySem.W.Frag} {C : SC} {B : Bs} {F : Hp} {σ : L2.St} {H : Hp} {ρ : En} {Q : VK} {r : Res D} {b : Bool} (S : SR K C B F σ H ρ) (h : RX C B (PD K C B σ F Q) (M.lift r ρ)) (e : r = .ok (.bool b)) : Q (.bl b) H := pd_now S h e rfl
theorem pd_in {K : PySem.W.Frag} {C : SC} {B : Bs} {F : Hp} {σ : L2.St} {H : Hp} {ρ : En} {Q : VK} {r : Res D} {b : Int} (S : SR K C B F σ H ρ) (h : RX C B (PD K C B σ F Q) (M.lift r ρ)) (e : r = .ok (.int b)) : Q (.int b) H := pd_now S h e rfl
theorem own_there {K : PySem.W.Frag} {C : SC} {B : Bs} {F : Hp} {σ : L2.St} {H : Hp} {ρ : En} (S : SR K C B F σ H ρ) {i : Nat} {p : Addr} (h : OwnAt σ ρ i p) : ∃ u, H p = some u := by
  obtain ⟨s, e1, o, e2⟩ := h
  exact SlOk.there (S.sl i s _ e1 e2) o
theorem po_new {K : PySem.W.Frag} {C : SC} {B : Bs} {F : Hp} {σ : L2.St} {H : Hp} {ρ : En} {Q : VK} {r : Res (List D)} {ds : List D} {p : Addr} {xs : List V} (S : SR K C B F σ H ρ) (h : RX C B (PO K C B σ F Q) (M.lift r ρ)) (e : r = .ok ds) (hp : H p = none) (z : xs.length ≤ sizeLine) (q : RpAll K F ds xs) : Q (.ref p) (upd H p (.lst xs)) := by
  subst e
  refine h p xs F _ (Same.refl _) (S.alloc0 hp) (S.fresh hp).1 (S.fresh hp).2 (fun i o => ?_) upd_same z q
  obtain ⟨u, hu⟩ := own_there S o
  rw [hp] at hu; cases hu
/-- an own new list is frozen -/
theorem SR.settle {K : PySem.W.Frag} {C : SC} {B : Bs} {F : Hp} {σ : L2.St} {H : Hp} {ρ : En} (S : SR K C B F σ H ρ) {p : Addr} {o : HO} (hp : H p = some o) (fp : F p = none) (bp : B.b p = none) (no : ∀ i, ¬ OwnAt σ ρ i p) : SR K C B (upd F p o) σ H ρ := by
  have sf : Same F (upd F p o) := same_upd fp
  refine ⟨fun a u e => ?_, fun a u e f => by rw [upd_ne (ne_of_none e bp)]; exact S.nf a u e f, S.kp, S.len, fun i s v e1 e2 => (S.sl i s v e1 e2).mono sf (fun _ _ _ _ e => e) (fun q e os n => ?_), S.ap, S.rf⟩
  · by_cases ha : a = p
    · subst ha; rw [upd_same] at e; rw [← e]; exact hp
    · rw [upd_ne ha] at e; exact S.fr _ _ e
  · rw [upd_ne]
    · exact n
    · rintro rfl
      exact no i ⟨s, e1, os, by rw [e2, e]⟩
def eL (m : M (List D)) : M D := m >>= fun ds => pure (.list ds)
theorem m_frz {m : M (List D)} (h : PE X a (tO X.K C m)) : PE X a (tM X.K C (eL m)) := pe_imp h fun σ H Q q => by
  obtain ⟨B, F, ρ, S, q⟩ := q
  refine tO.of S q.bind fun ds ρ1 h1 p xs F1 H1 s1 S1 fp bp no hp z r => ?_
  have sf : Same F1 (upd F1 p (.lst xs)) := same_upd fp
  exact h1 (.ref p) (upd F1 p (.lst xs)) H1 (s1.trans sf) (S1.settle hp fp bp no) ⟨p, xs, rfl, .inl upd_same, z, r.mono sf⟩

/-! ### constants and names -/
theorem m_int {i : Int} {j pos} : PE X (.Constant (.int i) j pos) (tM X.K C (pure (.int i))) := pe_imp pe_int fun σ H Q ⟨B, F, ρ, S, q⟩ => q _ F H (Same.refl _) S rfl
theorem m_bl {i : Bool} {j pos} : PE X (.Constant (.bool i) j pos) (tM X.K C (pure (.bool i))) := pe_imp pe_bl fun σ H Q ⟨B, F, ρ, S, q⟩ => q _ F H (Same.refl _) S rfl
theorem m_non {j pos} : PE X (.Constant .none j pos) (tM X.K C (pure .none)) := pe_imp pe_non fun σ H Q ⟨B, F, ρ, S, q⟩ => q _ F H (Same.refl _) S rfl
theorem m_str {i : Str} {j pos} : PE X (.Constant (.str i) j pos) (tM X.K C (pure (.str i))) := pe_imp pe_str fun σ H Q ⟨B, F, ρ, S, q⟩ => q _ F H (Same.refl _) S rfl
/-- a module's constant -/
theorem m_glb {x : Str} {v : V} {d : D} {u : Value} (hg : Gl X x) (hm : X.mg x = some u) (r : RelV v u) (hd : ∀ F, Rp X.K F d v) (hdb : (x == ("__debug__" : Str)) = false := by decide) : PE X (.Name x pos) (tM X.K C (pure d)) :=
  pe_imp (pe_glob hg hm r hdb) fun σ H Q ⟨B, F, ρ, S, q⟩ => q _ F H (Same.refl _) S (hd F)
/-- a name's value, frozen -/
def eVar (i : Nat) : M D := fun ρ => match ρ[i]? with
  | some (.val d) => .ok (d, ρ)
  | some (.own ds) => .ok (.list ds, ρ.set i (.val (.list ds)))
  | _ => .bad
theorem own_set_val {σ : L2.St} {ρ : En} {i j : Nat} {p : Addr} {d : D} (h : OwnAt σ (ρ.set i (.val d)) j p) : j ≠ i ∧ OwnAt σ ρ j p := by
  obtain ⟨s, e1, o, e2⟩ := h
  by_cases hj : j = i
  · subst hj
    by_cases hl : j < ρ.length
    · rw [List.getElem?_set_self hl] at e1; cases e1; cases o
    · rw [List.getElem?_eq_none (by simpa using hl)] at e1; cases e1
  · rw [List.getElem?_set_ne (Ne.symm hj)] at e1
    exact ⟨hj, s, e1, o, e2⟩
theorem SR.freeze {K : PySem.W.Frag} {C : SC} {B : Bs} {F : Hp} {σ : L2.St} {H : Hp} {ρ : En} (S : SR K C B F σ H ρ) {i : Nat} {ds : List D} (e : ρ[i]? = some (.own ds)) (ni : C.rf = none ∨ i ≠ 0) :
    ∃ p xs, σ[i]? = some (some (.ref p)) ∧ SR K C B (upd F p (.lst xs)) σ H (ρ.set i (.val (.list ds))) ∧ Same F (upd F p (.lst xs)) ∧ Rp K (upd F p (.lst xs)) (.list ds) (.ref p) := by
  have hlt := (List.getElem?_eq_some_iff.mp e).1
  have hl := S.len
  have ev : ∃ v, σ[i]? = some v := ⟨σ[i]'(by omega), by simp⟩
  obtain ⟨v, ev⟩ := ev
  obtain ⟨p, xs, ex, hp, r, ⟨fp, bp⟩, z⟩ := S.sl i _ _ e ev
  subst ex
  have sf : Same F (upd F p (.lst xs)) := same_upd fp
  have rp : Rp K (upd F p (.lst xs)) (.list ds) (.ref p) := ⟨p, xs, rfl, .inl upd_same, z, r.mono sf⟩
  have oi : OwnAt σ ρ i p := ⟨_, e, rfl, ev⟩
  have bn : B.b p = none := by
    rcases bp with q | q
    · exact q
    · obtain ⟨h1, ds', h2⟩ := S.rf p q
      have i0 := S.ap i 0 p oi ⟨_, h2, rfl, h1⟩
      rcases ni with n | n
      · rw [n] at q; cases q
      · exact absurd i0 n
  refine ⟨p, xs, ev, ⟨fun a u e => ?_, fun a u e f => by rw [upd_ne (ne_of_none e bn)]; exact S.nf a u e f, S.kp, by simpa using S.len, fun j s w e1 e2 => ?_, fun j k q h1 h2 => S.ap j k q (own_set_val h1).2 (own_set_val h2).2, fun q hq => ?_⟩, sf, rp⟩
  · by_cases ha : a = p
    · subst ha; rw [upd_same] at e; rw [← e]; exact hp
    · rw [upd_ne ha] at e; exact S.fr _ _ e
  · by_cases hj : j = i
    · subst hj
      rw [List.getElem?_set_self hlt] at e1
      cases e1
      rw [ev] at e2; cases e2
      exact ⟨_, rfl, rp⟩
    · rw [List.getElem?_set_ne (Ne.symm hj)] at e1
      refine (S.sl j s w e1 e2).mono sf (fun _ _ _ _ e => e) (fun q eq os n => ?_)
      rw [upd_ne]
      · exact n
      · rintro rfl
        exact hj (S.ap j i q ⟨s, e1, os, by rw [e2, eq]⟩ oi)
  · obtain ⟨h1, ds', h2⟩ := S.rf q hq
    refine ⟨h1, ds', ?_⟩
    rcases ni with n | n
    · rw [n] at hq; cases hq
    · rw [List.getElem?_set_ne n]; exact h2
theorem m_var (i : Nat) {x : Str} (ni : C.rf = none ∨ i ≠ 0) (hN : X.N[i]? = some x := by rfl) (hv : Vis X.env.scope x := by first | exact Or.inl rfl | exact Or.inr (Or.inl rfl) | exact Or.inr (Or.inr rfl)) (hd : (x == ("__debug__" : Str)) = false := by decide)
    (hcd : (x == ("__classdict__" : Str)) = false := by decide) : PE X (.Name x pos) (tM X.K C (eVar i)) := pe_imp (pe_var hN hv hd hcd) fun σ H Q q => by
  obtain ⟨B, F, ρ, S, q⟩ := q
  unfold eVar at q
  cases e : ρ[i]? with
  | none => rw [e] at q; exact q.elim
  | some s =>
    rw [e] at q
    cases s with
    | val d =>
      have hlt := (List.getElem?_eq_some_iff.mp e).1
      have hl := S.len
      have ev : σ[i]? = some (σ[i]'(by omega)) := by simp
      obtain ⟨x, ex, r⟩ := S.sl i _ _ e ev
      rw [ex] at ev
      exact ⟨x, ev, q x F H (Same.refl _) S r⟩
    | own ds =>
      obtain ⟨p, xs, ev, S', sf, r⟩ := S.freeze e ni
      exact ⟨_, ev, q _ _ H sf S' r⟩
    | emp => exact q.elim
    | scr _ => exact q.elim
    | dT _ => exact q.elim
    | dK _ => exact q.elim
end

/-! ### whole numbers -/
theorem rpv_int {K : PySem.W.Frag} {F H : Hp} {i : Int} {v : V} (h : RpV K F H (.int i) v) : v = .int i := by
  rcases h with h | ⟨p, xs, ds, e, _⟩
  · exact h
  · cases e
theorem rpv_bool {K : PySem.W.Frag} {F H : Hp} {i : Bool} {v : V} (h : RpV K F H (.bool i) v) : v = .bl i := by
  rcases h with h | ⟨p, xs, ds, e, _⟩
  · exact h
  · cases e
theorem rpv_none {K : PySem.W.Frag} {F H : Hp} {v : V} (h : RpV K F H .none v) : v = .non := by
  rcases h with h | ⟨p, xs, ds, e, _⟩
  · exact h
  · cases e
theorem rpv_str {K : PySem.W.Frag} {F H : Hp} {i : Str} {v : V} (h : RpV K F H (.str i) v) : v = .str i := by
  rcases h with h | ⟨p, xs, ds, e, _⟩
  · exact h
  · cases e
theorem rpv_tup {K : PySem.W.Frag} {F H : Hp} {ds : List D} {v : V} (s : Same F H) (h : RpV K F H (.tuple ds) v) : ∃ a xs, v = .ref a ∧ F a = some (.tup xs) ∧ H a = some (.tup xs) ∧ xs.length ≤ sizeLine ∧ RpAll K F ds xs := by
  rcases h with h | ⟨p, xs, ds, e, _⟩
  · obtain ⟨a, xs, e, q, z, r⟩ := h
    exact ⟨a, xs, e, q, s _ _ q, z, r⟩
  · cases e
theorem rpv_lst {K : PySem.W.Frag} {F H : Hp} {ds : List D} {v : V} (s : Same F H) (h : RpV K F H (.list ds) v) : ∃ a xs, v = .ref a ∧ Rd H a (.lst xs) ∧ xs.length ≤ sizeLine ∧ RpAll K F ds xs := by
  rcases h with h | ⟨p, xs, ds, e, e2, h1, z, r⟩
  · obtain ⟨a, xs, e, q, z, r⟩ := h
    exact ⟨a, xs, e, rd_same s q, z, r⟩
  · cases e
    exact ⟨p, xs, e2, .inl h1, z, r⟩
section
variable {X : Cx} {C : SC} {B : Bs}
/-- two whole numbers -/
def gI (g : Int → Int → Res D) : D → D → Res D
  | .int i, .int j => g i j
  | _, _ => .bad
theorem RX.bad_elim {α : Type} {Φ : α → En → Prop} {ρ : En} {r : Res α} (h : RX C B Φ (M.lift r ρ)) (e : r = .bad) : False := by
  subst e
  exact h
theorem op_ints {f : Value → Value → Sem Value} {P : Int → Int → Prop} [∀ i j, Decidable (P i j)] {g : Int → Int → V} {gd : Int → Int → D} (o : OpR X f (rI P g)) (hg : ∀ F i j, Rp X.K F (gd i j) (g i j)) :
    OpD X C f (gI fun i j => if P i j then .ok (gd i j) else .bad) := ⟨_, o, fun B F σ H ρ x y d e Q S rx ry h => by
  cases d <;> try exact (RX.bad_elim h rfl).elim
  cases e <;> try exact (RX.bad_elim h rfl).elim
  rename_i i j
  by_cases p : P i j
  · exact ⟨i, j, rpv_int rx, rpv_int ry, p, pd_now S h (by simp [gI, p]) (hg F i j)⟩
  · exact (RX.bad_elim h (by simp [gI, p])).elim⟩
theorem op_ints0 {f : Value → Value → Sem Value} {g : Int → Int → V} {gd : Int → Int → D} (o : OpR X f (rI0 g)) (hg : ∀ F i j, Rp X.K F (gd i j) (g i j)) :
    OpD X C f (gI fun i j => .ok (gd i j)) := ⟨_, o, fun B F σ H ρ x y d e Q S rx ry h => by
  cases d <;> try exact (RX.bad_elim h rfl).elim
  cases e <;> try exact (RX.bad_elim h rfl).elim
  rename_i i j
  exact ⟨i, j, rpv_int rx, rpv_int ry, pd_now S h rfl (hg F i j)⟩⟩
def dSub := gI fun i j => .ok (.int (i - j))
theorem o_sub : OpD X C (binaryOp .Sub) dSub := op_ints0 op_sub fun _ _ _ => rfl
instance (i j : Int) : Decidable (CMul i j) := by unfold CMul; infer_instance
instance (i j : Int) : Decidable (CDivN i j) := by unfold CDivN; infer_instance
instance (i j : Int) : Decidable (CPow i j) := by unfold CPow; infer_instance
def dMod := gI fun i j => if j ≠ 0 then .ok (.int (i.fmod j)) else .bad
theorem o_mod : OpD X C (binaryOp .Mod) dMod := op_ints op_modN fun _ _ _ => rfl
def dDiv := gI fun i j => if CDivN i j then .ok (.int (i.fdiv j)) else .bad
theorem o_div : OpD X C (binaryOp .FloorDiv) dDiv := op_ints op_fdivN fun _ _ _ => rfl
def dPow := gI fun i j => if CPow i j then .ok (.int (i ^ j.toNat)) else .bad
theorem o_pow : OpD X C (binaryOp .Pow) dPow := op_ints op_pow fun _ _ _ => rfl
def dShl := gI fun i j => if CPow i j then .ok (.int (i * 2 ^ j.toNat)) else .bad
theorem o_shl : OpD X C (binaryOp .LShift) dShl := op_ints op_shl fun _ _ _ => rfl
def dShr := gI fun i j => if 0 ≤ j then .ok (.int (i / 2 ^ j.toNat)) else .bad
theorem o_shr : OpD X C (binaryOp .RShift) dShr := op_ints op_shr fun _ _ _ => rfl
def dAnd := gI fun i j => .ok (.int (Builtin.bitAnd i j))
theorem o_and : OpD X C (binaryOp .BitAnd) dAnd := op_ints0 op_and fun _ _ _ => rfl
def dMulI := gI fun i j => if CMul i j then .ok (.int (i * j)) else .bad
theorem o_mulI : OpD X C (binaryOp .Mult) dMulI := op_ints op_mul fun _ _ _ => rfl
def dNeg : D → Res D
  | .int i => .ok (.int (-i))
  | _ => .bad
theorem m_neg {a : Expr} {ma : M (M D)} {pos : Pos} (ha : PE X a (tL X.K C ma)) : PE X (.UnaryOp .USub a pos) (tM X.K C (e1 dNeg ma)) :=
  pe_imp (pe_un un_neg ha) fun σ H Q h => e1_read (r := rU fun i => .int (-i)) (fun B F σ H ρ x d Q S rx h => by
    cases d <;> try exact (RX.bad_elim h rfl).elim
    exact ⟨_, rpv_int rx, pd_now S h rfl rfl⟩) h
/-- + -/
def dAdd : D → D → Res D
  | .int i, .int j => .ok (.int (i + j))
  | .str x, .str y => if x.length + y.length ≤ sizeLine then .ok (.str (x ++ y)) else .bad
  | .tuple xs, .tuple ys => if xs.length + ys.length ≤ sizeLine then .ok (.tuple (xs ++ ys)) else .bad
  | _, _ => .bad
theorem o_add : OpD X C (binaryOp .Add) dAdd := ⟨_, op_add.or (op_add_str.or op_catA), fun B F σ H ρ x y d e Q S rx ry h => by
  cases d with
  | int i =>
    cases e <;> try exact (RX.bad_elim h rfl).elim
    exact .inl ⟨_, _, rpv_int rx, rpv_int ry, pd_now S h rfl rfl⟩
  | str i =>
    cases e <;> try exact (RX.bad_elim h rfl).elim
    rename_i j
    by_cases z : i.length + j.length ≤ sizeLine
    · exact .inr (.inl ⟨_, _, rpv_str rx, rpv_str ry, z, pd_now (d := .str (i ++ j)) S h (by simp only [dAdd, if_pos z]) rfl⟩)
    · exact (RX.bad_elim h (by simp only [dAdd, if_neg z])).elim
  | tuple ds =>
    cases e <;> try exact (RX.bad_elim h rfl).elim
    rename_i es
    by_cases z : ds.length + es.length ≤ sizeLine
    · obtain ⟨p, xs, rfl, fp, hp, zx, r1⟩ := rpv_tup S.fr rx
      obtain ⟨q, ys, rfl, fq, hq, zy, r2⟩ := rpv_tup S.fr ry
      have l1 := r1.len
      have l2 := r2.len
      have er : dAdd (.tuple ds) (.tuple es) = .ok (.tuple (ds ++ es)) := by simp only [dAdd, if_pos z]
      refine .inr (.inr ⟨p, q, xs, ys, rfl, rfl, .of hp, .of hq, by omega, fun e => ?_, fun e1 e => ?_, fun e1 e2 p' np => ?_⟩)
      · subst e
        cases ds with
        | nil => exact pd_now S h er ⟨q, ys, rfl, fq, zy, r2⟩
        | cons d ds => simp at l1
      · subst e
        cases es with
        | nil => exact pd_now S h er ⟨p, xs, rfl, fp, zx, by simpa using r1⟩
        | cons d ds => simp at l2
      · exact pd_new S h er np ⟨p', xs ++ ys, rfl, upd_same, by rw [List.length_append]; omega, (r1.append r2).mono (same_upd (S.fresh np).1)⟩
    · exact (RX.bad_elim h (by simp only [dAdd, if_neg z])).elim
  | _ => exact (RX.bad_elim h rfl).elim⟩
end
end VS

set_option Elab.async false
set_option linter.all false
set_option maxRecDepth 100000
set_option maxHeartbeats 4000000
namespace VS
open PySem PySem.Spec PyProof.Rows L2
/-! ### equality -/
section
variable {K : PySem.W.Frag} {F H : Hp}
mutual
theorem rp_dp (s : Same F H) : ∀ {d : D} {v : V}, Rp K F d v → d.canLay0 = true → Dp K H v d
  | .none, _, h, _ => by cases (show _ = V.non from h); exact .non
  | .bool b, _, h, _ => by cases (show _ = V.bl b from h); exact .bl b
  | .int b, _, h, _ => by cases (show _ = V.int b from h); exact .int b
  | .str b, _, h, _ => by cases (show _ = V.str b from h); exact .str b
  | .list ds, v, h, l => by
    obtain ⟨a, xs, e, q, z, r⟩ := (show ∃ a xs, v = .ref a ∧ Rd F a (.lst xs) ∧ xs.length ≤ sizeLine ∧ RpAll K F ds xs from h)
    subst e
    exact .lst (.inl (rd_same s q)) (rp_dpAll s r (by simpa [PyData.canLay0] using l))
  | .tuple ds, v, h, l => by
    obtain ⟨a, xs, e, q, z, r⟩ := (show ∃ a xs, v = .ref a ∧ F a = some (.tup xs) ∧ xs.length ≤ sizeLine ∧ RpAll K F ds xs from h)
    subst e
    exact .tup (.of (s _ _ q)) (rp_dpAll s r (by simpa [PyData.canLay0] using l))
  | .dict kvs, v, h, l => by simp [PyData.canLay0] at l
theorem rp_dpAll (s : Same F H) : ∀ {ds : List D} {vs : List V}, RpAll K F ds vs → PyData.canLayAll0 ds = true → DpAll K H vs ds
  | [], vs, h, _ => by cases (show vs = [] from h); exact .nil
  | d :: ds, vs, h, l => by
    obtain ⟨y, ys, e, r, q⟩ := (show ∃ y ys, vs = y :: ys ∧ Rp K F d y ∧ RpAll K F ds ys from h)
    subst e
    have l' : d.canLay0 = true ∧ PyData.canLayAll0 ds = true := by simpa [PyData.canLayAll0] using l
    exact .cons (rp_dp s r l'.1) (rp_dpAll s q l'.2)
end
theorem rpv_dp (s : Same F H) {d : D} {v : V} (h : RpV K F H d v) (l : d.canLay0 = true) : Dp K H v d := by
  rcases h with h | ⟨p, xs, ds, e, e2, h1, z, r⟩
  · exact rp_dp s h l
  · subst e e2
    exact .lst (.of h1) (rp_dpAll s r (by simpa [PyData.canLay0] using l))
end
section
variable {X : Cx} {C : SC} {B : Bs} {a b c : Expr} {pos : Pos} {ma mb mc : M (M D)}
def dEq (d e : D) : Res D := if (SeqAt.shaped d && SeqAt.shaped e) = true then .ok (.bool (PyData.eqv d e)) else .bad
def dNe (d e : D) : Res D := if (SeqAt.shaped d && SeqAt.shaped e) = true then .ok (.bool (!PyData.eqv d e)) else .bad
theorem o_eq (hu : X.A.units + 64 < cLine) : OpD X C (compareOp .Eq) dEq := ⟨_, op_eqD hu, fun B F σ H ρ x y d e Q S rx ry h => by
  by_cases p : (SeqAt.shaped d && SeqAt.shaped e) = true
  · obtain ⟨p1, p2⟩ := Bool.and_eq_true_iff.mp p
    exact ⟨d, e, rpv_dp S.fr rx (SeqAt.canLay_of_shaped p1), rpv_dp S.fr ry (SeqAt.canLay_of_shaped p2), p1, p2, pd_bl S h (by unfold dEq; rw [if_pos p])⟩
  · exact (RX.bad_elim h (by unfold dEq; rw [if_neg p])).elim⟩
theorem o_ne (hu : X.A.units + 64 < cLine) : OpD X C (compareOp .NotEq) dNe := ⟨_, op_neD hu, fun B F σ H ρ x y d e Q S rx ry h => by
  by_cases p : (SeqAt.shaped d && SeqAt.shaped e) = true
  · obtain ⟨p1, p2⟩ := Bool.and_eq_true_iff.mp p
    exact ⟨d, e, rpv_dp S.fr rx (SeqAt.canLay_of_shaped p1), rpv_dp S.fr ry (SeqAt.canLay_of_shaped p2), p1, p2, pd_bl S h (by unfold dNe; rw [if_pos p])⟩
  · exact (RX.bad_elim h (by unfold dNe; rw [if_neg p])).elim⟩
/-- the whole numbers of a list -/
def intsOf : List D → Option (List Int)
  | [] => some []
  | .int i :: r => (intsOf r).map (i :: ·)
  | _ => none
theorem intsOf_eq : ∀ {ds : List D} {ns : List Int}, intsOf ds = some ns → ds = ns.map PyData.int
  | [], ns, h => by cases h; rfl
  | d :: ds, ns, h => by
    cases d <;> simp [intsOf] at h
    obtain ⟨m, h1, rfl⟩ := h
    simp [intsOf_eq h1]
theorem intsOf_map : ∀ (ns : List Int), intsOf (ns.map PyData.int) = some ns
  | [] => rfl
  | n :: ns => by simp [intsOf, intsOf_map ns]
/-- an order of whole numbers and of tuples of such -/
def gO (p : Int → Int → Bool) (q : List Int → List Int → Bool) : D → D → Res D
  | .int i, .int j => .ok (.bool (p i j))
  | .tuple xs, .tuple ys => match intsOf xs, intsOf ys with
    | some ns, some ms => .ok (.bool (q ns ms))
    | _, _ => .bad
  | _, _ => .bad
def rOrd (K : PySem.W.Frag) (q : List Int → List Int → Bool) : R2 := fun x y H Q => ∃ a b ns ms, x = .ref a ∧ y = .ref b ∧ SqT K H a (ns.map V.int) ∧ SqT K H b (ms.map V.int) ∧ Q (.bl (q ns ms)) H
theorem o_ord {op : CmpOp} {p : Int → Int → Bool} {q : List Int → List Int → Bool} (o1 : OpR X (compareOp op) (rI0 fun i j => .bl (p i j))) (o2 : OpR X (compareOp op) (rOrd X.K q)) : OpD X C (compareOp op) (gO p q) := ⟨_, o1.or o2, fun B F σ H ρ x y d e Q S rx ry h => by
  cases d with
  | int i =>
    cases e <;> try exact (RX.bad_elim h rfl).elim
    exact .inl ⟨_, _, rpv_int rx, rpv_int ry, pd_now S h rfl rfl⟩
  | tuple ds =>
    cases e <;> try exact (RX.bad_elim h rfl).elim
    rename_i es
    obtain ⟨a, xs, rfl, fp, hp, zx, r1⟩ := rpv_tup S.fr rx
    obtain ⟨b, ys, rfl, fq, hq, zy, r2⟩ := rpv_tup S.fr ry
    cases e1 : intsOf ds with
    | none => exact (RX.bad_elim h (by simp only [gO, e1])).elim
    | some ns =>
      cases e2 : intsOf es with
      | none => exact (RX.bad_elim h (by simp only [gO, e1, e2])).elim
      | some ms =>
        have z1 := intsOf_eq e1
        have z2 := intsOf_eq e2
        subst z1 z2
        have y1 := r1.ints
        have y2 := r2.ints
        subst y1 y2
        exact .inr ⟨a, b, ns, ms, rfl, rfl, .of hp, .of hq, pd_bl S h (by simp only [gO, e1, e2])⟩
  | _ => exact (RX.bad_elim h rfl).elim⟩
def dLt := gO (fun i j => decide (i < j)) HT.lexLt
theorem o_lt (hu : X.A.units < cLine) : OpD X C (compareOp .Lt) dLt := o_ord op_lt (op_ltT hu)
def lexLe (ns ms : List Int) : Bool := Ob.lexAt (fun j => decide (ns.getD j 0 = ms.getD j 0)) (fun j => decide (ns.getD j 0 ≤ ms.getD j 0)) (decide (ns.length ≤ ms.length)) 0 (min ns.length ms.length)
def dLe := gO (fun i j => decide (i ≤ j)) lexLe
theorem o_le (hu : X.A.units < cLine) : OpD X C (compareOp .LtE) dLe := o_ord op_le (op_leT hu)
def lexGt (ns ms : List Int) : Bool := Ob.lexAt (fun j => decide (ns.getD j 0 = ms.getD j 0)) (fun j => decide (ms.getD j 0 < ns.getD j 0)) (decide (ms.length < ns.length)) 0 (min ns.length ms.length)
def lexGe (ns ms : List Int) : Bool := Ob.lexAt (fun j => decide (ns.getD j 0 = ms.getD j 0)) (fun j => decide (ms.getD j 0 ≤ ns.getD j 0)) (decide (ms.length ≤ ns.length)) 0 (min ns.length ms.length)
def dGt := gI fun i j => .ok (.bool (decide (j < i)))
theorem o_gt : OpD X C (compareOp .Gt) dGt := op_ints0 op_gt fun _ _ _ => rfl
def dGe := gI fun i j => .ok (.bool (decide (j ≤ i)))
theorem o_ge : OpD X C (compareOp .GtE) dGe := op_ints0 op_ge fun _ _ _ => rfl
/-- is True, is False -/
def dIsB : D → D → Res D
  | .bool a, .bool b => .ok (.bool (decide (a = b)))
  | _, _ => .bad
theorem o_isB : OpD X C (compareOp .Is) dIsB := ⟨_, op_isBl, fun B F σ H ρ x y d e Q S rx ry h => by
  cases d <;> try exact (RX.bad_elim h rfl).elim
  cases e <;> try exact (RX.bad_elim h rfl).elim
  exact ⟨_, _, rpv_bool rx, rpv_bool ry, pd_now S h rfl rfl⟩⟩
def dNotB : D → D → Res D
  | .bool a, .bool b => .ok (.bool (!decide (a = b)))
  | _, _ => .bad
theorem o_notB : OpD X C (compareOp .IsNot) dNotB := ⟨_, op_notBl, fun B F σ H ρ x y d e Q S rx ry h => by
  cases d <;> try exact (RX.bad_elim h rfl).elim
  cases e <;> try exact (RX.bad_elim h rfl).elim
  exact ⟨_, _, rpv_bool rx, rpv_bool ry, pd_now S h rfl rfl⟩⟩
/-- is None -/
def isNon : D → Bool
  | .none => true
  | _ => false
theorem rpv_isNon {F H : Hp} {d : D} {v : V} (h : RpV X.K F H d v) : decide (v = .non) = isNon d := by
  rcases h with h | ⟨p, xs, ds, e, e2, _⟩
  · cases d with
    | none => cases (show v = V.non from h); rfl
    | bool b => cases (show v = V.bl b from h); rfl
    | int b => cases (show v = V.int b from h); rfl
    | str b => cases (show v = V.str b from h); rfl
    | list ds => obtain ⟨a, xs, rfl, _⟩ := (show ∃ a xs, v = .ref a ∧ Rd F a (.lst xs) ∧ xs.length ≤ sizeLine ∧ RpAll X.K F ds xs from h); rfl
    | tuple ds => obtain ⟨a, xs, rfl, _⟩ := (show ∃ a xs, v = .ref a ∧ F a = some (.tup xs) ∧ xs.length ≤ sizeLine ∧ RpAll X.K F ds xs from h); rfl
    | dict kvs => obtain ⟨a, xs, rfl, _⟩ := (show ∃ a kv, v = .ref a ∧ F a = some (.dK kv) ∧ RpKv X.K F kvs kv from h); rfl
  · subst e e2; rfl
def dIsN (d : D) : Res D := .ok (.bool (isNon d))
def dNotN (d : D) : Res D := .ok (.bool (!isNon d))
theorem m_isN {j pos'} (ha : PE X a (tL X.K C ma)) : PE X (.Compare a [.Is] [.Constant .none j pos'] pos) (tM X.K C (e1 dIsN ma)) :=
  pe_imp (pe_cmp (pc_isN ha)) fun σ H Q h => e1_read (r := fun x H Q => Q (.bl (decide (x = .non))) H) (fun B F σ H ρ x d Q S rx h => by
    show Q (.bl (decide (x = .non))) H
    rw [rpv_isNon rx]
    exact pd_now S h rfl rfl) h
theorem m_notN {j pos'} (ha : PE X a (tL X.K C ma)) : PE X (.Compare a [.IsNot] [.Constant .none j pos'] pos) (tM X.K C (e1 dNotN ma)) :=
  pe_imp (pe_cmp (pc_notN ha)) fun σ H Q h => e1_read (r := fun x H Q => Q (.bl (!decide (x = .non))) H) (fun B F σ H ρ x d Q S rx h => by
    show Q (.bl (!decide (x = .non))) H
    rw [rpv_isNon rx]
    exact pd_now S h rfl rfl) h
/-- x in xs, of data -/
def inD (x : D) : List D → Bool
  | [] => false
  | y :: ys => PyData.eqv y x || inD x ys

/-! ### tests -/
def asB : D → Res Bool
  | .bool b => .ok b
  | _ => .bad
def eB (m : M D) : M Bool := m >>= fun d => M.lift (asB d)
theorem eB_read {m : M D} {σ : L2.St} {H : Hp} {Q : Bool → Hp → Prop} (h : tB X.K C (eB m) σ H Q) : tM X.K C m σ H (fun x H' => ∃ k, x = .bl k ∧ Q k H') := by
  obtain ⟨B, F, ρ, S, h⟩ := h
  refine tM.of S h.bind fun d ρ1 h1 v F1 H1 s1 S1 r1 => ?_
  cases d <;> try exact (RX.bad_elim h1 rfl).elim
  exact ⟨_, r1, h1 F1 H1 s1 S1⟩
theorem mt_cmp {op : CmpOp} {g : D → D → Res D} (o : OpD X C (compareOp op) g) (ha : PE X a (tL X.K C ma)) (hb : PE X b (tL X.K C mb)) (hm : behindInMarks op b = false) : PT X (.Compare a [op] [b] pos) (tB X.K C (eB (e2 g ma mb))) :=
  let ⟨_, o1, k⟩ := o
  pt_imp (pt_cmpR o1 ha hb hm) fun _ _ _ h => e2_read k (eB_read h)
theorem mt_val {m : M D} (h : PE X a (tM X.K C m)) (he : ∀ whole, isTrue a X.env whole = (do let v ← whole; standAt a.pos; holding [v] (truthy v)) := by intro _; rfl) : PT X a (tB X.K C (eB m)) :=
  pt_imp (pt_val h he) fun _ _ _ q => eB_read q
def eAnd (a b : M Bool) : M Bool := a >>= fun c => if c = true then b else pure false
def eOr (a b : M Bool) : M Bool := a >>= fun c => if c = true then pure true else b
def eNot (a : M Bool) : M Bool := a >>= fun c => pure (!c)
variable {rest : List Expr} {ta tb' : M Bool}
theorem mt_and (ha : PT X a (tB X.K C ta)) (hb : PW X (.BoolOp .And (b :: rest) pos) (tB X.K C tb')) : PW X (.BoolOp .And (a :: b :: rest) pos) (tB X.K C (eAnd ta tb')) :=
  pw_imp (pw_and ha hb) fun σ H Q q => by
    obtain ⟨B, F, ρ, S, h⟩ := q
    refine tB.of S h.bind fun d ρ1 h1 F1 H1 s1 S1 => ?_
    cases d with
    | true => exact tB.of S1 h1 fun _ _ q => q.mono s1
    | false => exact h1 F1 H1 s1 S1
theorem mt_or (ha : PT X a (tB X.K C ta)) (hb : PW X (.BoolOp .Or (b :: rest) pos) (tB X.K C tb')) : PW X (.BoolOp .Or (a :: b :: rest) pos) (tB X.K C (eOr ta tb')) :=
  pw_imp (pw_or ha hb) fun σ H Q q => by
    obtain ⟨B, F, ρ, S, h⟩ := q
    refine tB.of S h.bind fun d ρ1 h1 F1 H1 s1 S1 => ?_
    cases d with
    | true => exact h1 F1 H1 s1 S1
    | false => exact tB.of S1 h1 fun _ _ q => q.mono s1
theorem mt_not (ha : PT X a (tB X.K C ta)) : PT X (.UnaryOp .Not a pos) (tB X.K C (eNot ta)) :=
  pt_imp (pt_not ha) fun σ H Q q => by
    obtain ⟨B, F, ρ, S, h⟩ := q
    exact tB.of S h.bind fun d ρ1 h1 F1 H1 s1 S1 => h1 F1 H1 s1 S1
/-! .. as values -/
variable {va vb vc : M D}
def eAndV (a b : M D) : M D := eB a >>= fun c => if c = true then b else pure (.bool false)
def eOrV (a b : M D) : M D := eB a >>= fun c => if c = true then pure (.bool true) else b
theorem eB_then {α : Type} {Φ : α → En → Prop} {ρ : En} {m : M D} {f : Bool → M α} (h : RX C B Φ ((eB m >>= f) ρ)) : RX C B (fun d ρ1 => ∃ c, d = .bool c ∧ RX C B Φ (f c ρ1)) (m ρ) := by
  have h2 := (h.bind (m := eB m))
  have h3 := h2.bind (m := m)
  refine h3.imp fun d ρ1 q => ?_
  cases d <;> try exact (RX.bad_elim q rfl).elim
  exact ⟨_, rfl, q⟩
theorem m_and (ha : PE X a (tM X.K C va)) (hb : PE X (.BoolOp .And (b :: rest) pos) (tM X.K C vb)) : PE X (.BoolOp .And (a :: b :: rest) pos) (tM X.K C (eAndV va vb)) :=
  pe_imp (pe_and ha hb) fun σ H Q q => by
    obtain ⟨B, F, ρ, S, h⟩ := q
    refine tM.of S (eB_then h) fun d ρ1 h1 v F1 H1 s1 S1 r1 => ?_
    obtain ⟨c, rfl, h2⟩ := h1
    refine ⟨c, r1, ?_⟩
    cases c with
    | true => exact tM.of S1 h2 fun _ _ q => q.mono s1
    | false => exact h2 _ F1 H1 s1 S1 rfl
theorem m_or (ha : PE X a (tM X.K C va)) (hb : PE X (.BoolOp .Or (b :: rest) pos) (tM X.K C vb)) : PE X (.BoolOp .Or (a :: b :: rest) pos) (tM X.K C (eOrV va vb)) :=
  pe_imp (pe_or ha hb) fun σ H Q q => by
    obtain ⟨B, F, ρ, S, h⟩ := q
    refine tM.of S (eB_then h) fun d ρ1 h1 v F1 H1 s1 S1 r1 => ?_
    obtain ⟨c, rfl, h2⟩ := h1
    refine ⟨c, r1, ?_⟩
    cases c with
    | true => exact h2 _ F1 H1 s1 S1 rfl
    | false => exact tM.of S1 h2 fun _ _ q => q.mono s1
theorem m_one {op} {m : M D} (h : PE X a (tM X.K C m)) : PE X (.BoolOp op [a] pos) (tM X.K C m) := pe_one h
def eNotV (a : M D) : M D := eB a >>= fun c => pure (.bool (!c))
theorem m_not (ha : PE X a (tM X.K C va)) : PE X (.UnaryOp .Not a pos) (tM X.K C (eNotV va)) :=
  pe_imp (pe_not ha) fun σ H Q q => by
    obtain ⟨B, F, ρ, S, h⟩ := q
    refine tM.of S (eB_then h) fun d ρ1 h1 v F1 H1 s1 S1 r1 => ?_
    obtain ⟨c, rfl, h2⟩ := h1
    exact ⟨c, r1, h2 _ F1 H1 s1 S1 rfl⟩
def eIf (t : M Bool) (a b : M D) : M D := t >>= fun c => if c = true then a else b
theorem m_if (hc : PT X c (tB X.K C ta)) (ha : PE X a (tM X.K C va)) (hb : PE X b (tM X.K C vb)) : PE X (.IfExp c a b pos) (tM X.K C (eIf ta va vb)) :=
  pe_imp (pe_ifExp hc ha hb) fun σ H Q q => by
    obtain ⟨B, F, ρ, S, h⟩ := q
    refine tB.of S h.bind fun d ρ1 h1 F1 H1 s1 S1 => ?_
    cases d with
    | true => exact tM.of S1 h1 fun _ _ q => q.mono s1
    | false => exact tM.of S1 h1 fun _ _ q => q.mono s1
/-- a op1 b op2 c -/
def e3 (g g' : D → D → Res D) (ma mb mc : M (M D)) : M D := ma >>= fun x => mb >>= fun y => (x >>= fun x => y >>= fun y => M.lift (g x y) >>= fun d => M.lift (asB d)) >>= fun k => if k = true then mc >>= fun z => y >>= fun y => z >>= fun z => M.lift (g' y z) else pure (.bool false)
theorem lift_bad {α : Type} {Φ : α → En → Prop} {ρ : En} {r : Res D} {f : D → M α} (h : RX C B Φ ((M.lift r >>= f) ρ)) (k : r = .bad) : False := by
  subst k
  exact h
theorem e3_read {g g' : D → D → Res D} {r r' : R2} (k1 : Op2 X C g r) (k2 : Op2 X C g' r') {σ : L2.St} {H : Hp} {Q : VK} (h : tM X.K C (e3 g g' ma mb mc) σ H Q) : tChain r r' (tL X.K C ma) (tL X.K C mb) (tL X.K C mc) σ H Q := by
  obtain ⟨B, F, ρ, S, h⟩ := h
  refine tL.of S h.bind fun la ρ1 h1 v F1 H1 s1 S1 r1 => ?_
  refine tL.of S1 h1.bind fun lb ρ2 h2 u F2 H2 s2 S2 r2 => ?_
  have h3 := h2.bind (m := la >>= fun x => lb >>= fun y => M.lift (g x y) >>= fun d => M.lift (asB d))
  obtain ⟨d, rd, h4⟩ := late_step S2 (r1.mono s2) h3
  obtain ⟨e, re, h5⟩ := late_step S2 r2 h4
  refine k1 B F2 σ H2 ρ2 v u d e _ S2 rd re ?_
  refine (h5.bind (m := M.lift (g d e))).imp fun x ρ3 q3 z F3 H3 s3 S3 r3 => ?_
  cases x <;> try exact (RX.bad_elim q3 rfl).elim
  rename_i k
  refine ⟨k, r3, ?_⟩
  have q4 : RX C B (PD X.K C B σ F Q) ((if k = true then mc >>= fun z => lb >>= fun y => z >>= fun z => M.lift (g' y z) else pure (.bool false)) ρ3) := q3
  cases k with
  | false => exact q4 _ F3 H3 (s1.trans (s2.trans s3)) S3 rfl
  | true =>
    rw [if_pos rfl] at q4 ⊢
    refine tL.of S3 q4.bind fun lc ρ4 h6 w F4 H4 s4 S4 r4 => ?_
    obtain ⟨e', re', h7⟩ := late_step S4 (r2.mono (s3.trans s4)) h6
    obtain ⟨d', rd', h8⟩ := late_step S4 r4 h7
    exact k2 B F4 σ H4 ρ4 u w e' d' Q S4 re' rd' (h8.imp fun _ _ q => q.mono ((s1.trans s2).trans (s3.trans s4)))
theorem m_chain {op op' : CmpOp} {g g' : D → D → Res D} (o : OpD X C (compareOp op) g) (o' : OpD X C (compareOp op') g') (ha : PE X a (tL X.K C ma)) (hb : PE X b (tL X.K C mb)) (hc : PE X c (tL X.K C mc))
    (hm : lastMarks [op, op'] [b, c] = false := by with_unfolding_all rfl) : PE X (.Compare a [op, op'] [b, c] pos) (tM X.K C (e3 g g' ma mb mc)) :=
  let ⟨_, o1, k⟩ := o
  let ⟨_, o2, k'⟩ := o'
  pe_imp (pe_chain o1 o2 ha hb hc hm) fun _ _ _ h => e3_read k k' h
theorem mt_chain {op op' : CmpOp} {g g' : D → D → Res D} (o : OpD X C (compareOp op) g) (o' : OpD X C (compareOp op') g') (ha : PE X a (tL X.K C ma)) (hb : PE X b (tL X.K C mb)) (hc : PE X c (tL X.K C mc))
    (hm : lastMarks [op, op'] [b, c] = false := by with_unfolding_all rfl) : PT X (.Compare a [op, op'] [b, c] pos) (tB X.K C (eB (e3 g g' ma mb mc))) :=
  let ⟨_, o1, k⟩ := o
  let ⟨_, o2, k'⟩ := o'
  pt_imp (pt_chain o1 o2 ha hb hc hm) fun _ _ _ h => e3_read k k' (eB_read h)
end
end VS

set_option Elab.async false
set_option linter.all false
set_option maxRecDepth 100000
set_option maxHeartbeats 4000000
namespace L2
open PySem PySem.Spec PyProof.Rows
section
variable {X : Cx} {pins : List (Addr × Obj)} {σ : L2.St} {H : Hp} {s : Shared} {l : Addr} {xs : List V}
theorem Inv.lstR (I : Inv X pins σ H s) (hH : Rd H l (.lst xs)) : xs.length ≤ sizeLine ∧ ∃ (its : List Value) (n : Nat), Vals xs its ∧ xs.length = its.length ∧ s.heap.get? l = some { cls := .type "list", data := .seq its.toArray n } := by
  obtain ⟨z, its, n, r, e⟩ := (show ObjOk X.prog X.w H s.heap l (.lst xs) from hH.ok I.hok)
  exact ⟨z, its, n, r, r.length, e⟩
def rCatR : R2 := fun x y H Q => ∃ l b xs zs, x = .ref l ∧ y = .ref b ∧ Rd H l (.lst xs) ∧ Rd H b (.lst zs) ∧ xs.length + zs.length ≤ sizeLine ∧ ∀ p, H p = none → Q (.ref p) (upd H p (.lst (xs ++ zs)))
theorem op_catR : OpR X (binaryOp .Add) rCatR := by
  intro pins s σ H x y v u Q I rx ry h
  obtain ⟨l, b, xs, zs, rfl, rfl, hH, hB, hz, q⟩ := h
  cases rx
  cases ry
  obtain ⟨z, its, n, r, hl, e⟩ := I.lstR hH
  obtain ⟨z2, its2, n2, r2, hl2, e2⟩ := I.lstR hB
  refine PySem.P.add_list e e2 ?_ (by rw [List.size_toArray, List.size_toArray]; omega)
  have ea : its.toArray ++ its2.toArray = (its ++ its2).toArray := by simp
  rw [ea]
  exact ⟨.ref _, _, I.lnew (t' := s.toks) (r.append r2) (by rw [List.length_append]; omega), rfl, q _ I.fresh⟩
def rRepR : R2 := fun x y H Q => ∃ l k xs, x = .ref l ∧ y = .int k ∧ Rd H l (.lst xs) ∧ -(2 ^ 63) ≤ k ∧ k < 2 ^ 63 ∧ xs.length * k.toNat ≤ sizeLine ∧
  ∀ p, H p = none → Q (.ref p) (upd H p (.lst (List.replicate k.toNat xs).flatten))
theorem op_repR : OpR X (binaryOp .Mult) rRepR := by
  intro pins s σ H x y v u Q I rx ry h
  obtain ⟨l, k, xs, rfl, rfl, hH, h1, h2, hz, q⟩ := h
  cases rx
  obtain ⟨t, rfl⟩ := ry
  obtain ⟨z, its, n, r, hl, e⟩ := I.lstR hH
  have hlen : its.toArray.size * k.toNat ≤ sizeLine := by rw [List.size_toArray, ← hl]; exact hz
  have hcap : ¬ its.toArray.size * k.toNat > (2 ^ 63 - 1) / 8 := by
    have : (sizeLine : Nat) ≤ (2 ^ 63 - 1) / 8 := by decide
    omega
  have hfit : ¬ (!Builtin.List.listFitsIndex k) = true := by
    rw [fitsIndex_both h1 h2]
    exact Bool.false_ne_true
  have hlong : ¬ Builtin.List.listTooLong (its.toArray.size * k.toNat) = true := by
    rw [notLongL hlen]
    exact Bool.false_ne_true
  have hnew : List.foldl (fun x1 x2 => x1 ++ x2) #[] (List.replicate (if its.toArray.isEmpty = true then 0 else k.toNat) its.toArray) = (List.replicate k.toNat its).flatten.toArray := by
    have f0 : ∀ m : Nat, List.foldl (fun x1 x2 => x1 ++ x2) #[] (List.replicate m its.toArray) = (List.replicate m its).flatten.toArray := fun m => by
      have := foldl_rep its m []
      rw [List.nil_append] at this
      exact this
    rw [f0]
    cases its with
    | nil => simp
    | cons a r' => rw [if_neg (by simp)]
  refine wpAny_binaryOp_repeat_ref (T := "list") (U := "int") (by decide) ⟨_, e, rfl⟩ (fun s' => typeIs_int s' k t) noFill_list_mul F.fills_int_mul F.slot_int_rmul repeat_list F.slot_int_index.lookup
    (call_meets F.slot_int_rmul (typeIs_int s k t) F.entry_int_rmul (F.args_int_rmul_2 _ _) (int___rmul___int_list k t l its.toArray n)
      ⟨e, rfl, ⟨_, e, rfl⟩, call_meets F.slot_list_mul ⟨_, e, rfl⟩ F.entry_list_mul (F.args_list_mul_2 _ _) (AutoListH.list___mul___list_int_3 l its.toArray n k t hfit hcap hlong) ⟨e, ?_⟩⟩)
  rw [hnew]
  exact ⟨.ref _, _, I.lnew (t' := s.toks) (r.rep k.toNat) (by rw [PyProof.Rows.lm_len_rep_flat, Nat.mul_comm]; exact hz), rfl, q _ I.fresh⟩
def rExtendR : V → List V → Hp → VK → Prop := fun x vs H Q => ∃ l b xs zs, x = .ref l ∧ vs = [.ref b] ∧ H l = some (.lst xs) ∧ Rd H b (.lst zs) ∧ xs.length + zs.length ≤ sizeLine ∧ Q .non (upd H l (.lst (xs ++ zs)))
theorem mt_extendR : MtM X "list.extend" rExtendR := by
  intro pins s σ H x vs v us Q I rx rv h
  obtain ⟨l, b, xs, zs, rfl, rfl, hH, hB, hz, q⟩ := h
  cases rx
  obtain ⟨u, rfl, ru⟩ := rv.one
  cases ru
  obtain ⟨z, its, n, r, hl, e⟩ := I.lstM hH
  obtain ⟨z2, its2, n2, r2, hl2, e2⟩ := I.lstR hB
  have hsz : its.toArray.size + its2.toArray.size ≤ sizeLine := by rw [List.size_toArray, List.size_toArray]; omega
  have hlong : ¬ (!its.toArray.isEmpty && Builtin.List.listTooLong (its.toArray.size + its2.toArray.size)) = true := by
    rw [notLongL hsz, Bool.and_false]
    exact Bool.false_ne_true
  refine call_meets F.slot_list_extend ⟨_, e, rfl⟩ F.entry_list_extend (F.args_list_extend_2 _ _)
    (AutoSeq1.list_extend_list_list_0 l its.toArray n b its2.toArray n2 hlong (by rw [List.size_toArray]; omega) (by omega)) ⟨e, e2, ?_⟩
  refine ⟨.non, _, I.lset (its' := its ++ its2) hH e (by simp) (r.append r2) ?_, rfl, q⟩
  rw [List.length_append]
  omega
end
end L2

namespace VS
open PySem PySem.Spec PyProof.Rows L2
section
variable {X : Cx} {C : SC} {B : Bs} {a b c : Expr} {pos p2 : Pos} {ma mb mc : M (M D)}
/-! ### list + list, list * int -/
def gCat : D → D → Res (List D)
  | .list xs, .list ys => if xs.length + ys.length ≤ sizeLine then .ok (xs ++ ys) else .bad
  | _, _ => .bad
def gRep : D → D → Res (List D)
  | .list xs, .int k => if -(2 ^ 63) ≤ k ∧ k < 2 ^ 63 ∧ xs.length * k.toNat ≤ sizeLine then .ok (List.replicate k.toNat xs).flatten else .bad
  | _, _ => .bad
theorem RpAll.rep {K : PySem.W.Frag} {F : Hp} {ds : List D} {vs : List V} (h : RpAll K F ds vs) : ∀ k : Nat, RpAll K F (List.replicate k ds).flatten (List.replicate k vs).flatten
  | 0 => rfl
  | k + 1 => by simp only [List.replicate_succ, List.flatten_cons]; exact h.append (h.rep k)
theorem o_catO : OpO X C (binaryOp .Add) gCat := ⟨_, op_catR, fun B F σ H ρ x y d e Q S rx ry h => by
  cases d <;> try exact (RX.bad_elim h rfl).elim
  cases e <;> try exact (RX.bad_elim h rfl).elim
  rename_i ds es
  by_cases z : ds.length + es.length ≤ sizeLine
  · obtain ⟨p, xs, rfl, fp, zx, r1⟩ := rpv_lst S.fr rx
    obtain ⟨q, ys, rfl, fq, zy, r2⟩ := rpv_lst S.fr ry
    have l1 := r1.len
    have l2 := r2.len
    exact ⟨p, q, xs, ys, rfl, rfl, fp, fq, by omega, fun p' np => po_new (ds := ds ++ es) S h (by simp only [gCat, if_pos z]) np (by rw [List.length_append]; omega) (r1.append r2)⟩
  · exact (RX.bad_elim h (by simp only [gCat, if_neg z])).elim⟩
theorem rep_len {α : Type} (xs : List α) (k : Nat) : (List.replicate k xs).flatten.length = xs.length * k := by
  rw [PyProof.Rows.lm_len_rep_flat, Nat.mul_comm]
theorem o_repO : OpO X C (binaryOp .Mult) gRep := ⟨_, op_repR, fun B F σ H ρ x y d e Q S rx ry h => by
  cases d <;> try exact (RX.bad_elim h rfl).elim
  cases e <;> try exact (RX.bad_elim h rfl).elim
  rename_i ds k
  by_cases z : -(2 ^ 63) ≤ k ∧ k < 2 ^ 63 ∧ ds.length * k.toNat ≤ sizeLine
  · obtain ⟨p, xs, rfl, fp, zx, r1⟩ := rpv_lst S.fr rx
    have l1 := r1.len
    exact ⟨p, k, xs, rfl, rpv_int ry, fp, z.1, z.2.1, by rw [← l1]; exact z.2.2, fun p' np => po_new (ds := (List.replicate k.toNat ds).flatten) S h (by simp only [gRep, if_pos z]) np (by rw [rep_len, ← l1]; exact z.2.2) (r1.rep _)⟩
  · exact (RX.bad_elim h (by simp only [gRep, if_neg z])).elim⟩
/-- from a new list to a value -/
theorem op2_frz {g : D → D → Res (List D)} {r : R2} (k : Op2O X C g r) : Op2 X C (fun d e => (g d e).bind fun ds => .ok (.list ds)) r := fun B F σ H ρ x y d e Q S rx ry h =>
  k B F σ H ρ x y d e Q S rx ry (by
    replace h : RX C B (PD X.K C B σ F Q) (M.lift ((g d e).bind fun ds => .ok (.list ds)) ρ) := h
    cases q : g d e with
    | bad => rw [q] at h; exact h
    | exc c => rw [q] at h; exact h
    | ok ds =>
      rw [q] at h
      intro p xs F1 H1 s1 S1 fp bp no hp z r
      have sf : Same F1 (upd F1 p (.lst xs)) := same_upd fp
      exact h (.ref p) (upd F1 p (.lst xs)) H1 (s1.trans sf) (S1.settle hp fp bp no) ⟨p, xs, rfl, .inl upd_same, z, r.mono sf⟩)
theorem op1_frz {g : D → Res (List D)} {r : V → Hp → VK → Prop} (k : Op1O X C g r) : Op1 X C (fun d => (g d).bind fun ds => .ok (.list ds)) r := fun B F σ H ρ x d Q S rx h =>
  k B F σ H ρ x d Q S rx (by
    replace h : RX C B (PD X.K C B σ F Q) (M.lift ((g d).bind fun ds => .ok (.list ds)) ρ) := h
    cases q : g d with
    | bad => rw [q] at h; exact h
    | exc c => rw [q] at h; exact h
    | ok ds =>
      rw [q] at h
      intro p xs F1 H1 s1 S1 fp bp no hp z r
      have sf : Same F1 (upd F1 p (.lst xs)) := same_upd fp
      exact h (.ref p) (upd F1 p (.lst xs)) H1 (s1.trans sf) (S1.settle hp fp bp no) ⟨p, xs, rfl, .inl upd_same, z, r.mono sf⟩)
theorem OpD.or {f : Value → Value → Sem Value} {g g' : D → D → Res D} {k : D → D → Bool} (h : OpD X C f g) (h' : OpD X C f g') : OpD X C f (fun d e => if k d e = true then g d e else g' d e) := by
  obtain ⟨r, o, q⟩ := h
  obtain ⟨r', o', q'⟩ := h'
  refine ⟨_, o.or o', fun B F σ H ρ x y d e Q S rx ry w => ?_⟩
  replace w : RX C B (PD X.K C B σ F Q) (M.lift (if k d e = true then g d e else g' d e) ρ) := w
  by_cases c : k d e = true
  · exact .inl (q B F σ H ρ x y d e Q S rx ry (by rw [if_pos c] at w; exact w))
  · exact .inr (q' B F σ H ρ x y d e Q S rx ry (by rw [if_neg c] at w; exact w))
def isLst : D → Bool
  | .list _ => true
  | _ => false
def dAddL (d e : D) : Res D := if isLst d = true then (gCat d e).bind fun ds => .ok (.list ds) else dAdd d e
theorem o_addL : OpD X C (binaryOp .Add) dAddL := OpD.or (k := fun d _ => isLst d) (let ⟨_, o, q⟩ := o_catO; ⟨_, o, op2_frz q⟩) o_add
def dMul (d e : D) : Res D := if isLst d = true then (gRep d e).bind fun ds => .ok (.list ds) else dMulI d e
theorem o_mul : OpD X C (binaryOp .Mult) dMul := OpD.or (k := fun d _ => isLst d) (let ⟨_, o, q⟩ := o_repO; ⟨_, o, op2_frz q⟩) o_mulI

/-! ### x[i] -/
def dIx : D → D → Res D
  | .list xs, .int i => match atI xs i with
    | some d => .ok d
    | none => .bad
  | .tuple xs, .int i => match atI xs i with
    | some d => .ok d
    | none => .bad
  | .str z, .int i => match atI z.cps.toList i with
    | some c => if z.length ≤ sizeLine then .ok (.str ⟨#[c]⟩) else .bad
    | none => .bad
  | _, _ => .bad
theorem at_rp {K : PySem.W.Frag} {F : Hp} {ds : List D} {vs : List V} {i : Int} {d : D} (r : RpAll K F ds vs) (h : atI ds i = some d) : ∃ v, atI vs i = some v ∧ Rp K F d v := by
  unfold atI at h ⊢
  rw [r.len] at h
  cases e : ixN vs.length i with
  | none => rw [e] at h; cases h
  | some j =>
    rw [e] at h
    obtain ⟨v, e1, q⟩ := r.get' (i := j) h
    exact ⟨v, by simpa using e1, q⟩
theorem op_ix : Op2 X C dIx (rIx X.K) := fun B F σ H ρ x y d e Q S rx ry h => by
  cases d with
  | list ds =>
    cases e <;> try exact (RX.bad_elim h rfl).elim
    rename_i i
    obtain ⟨p, xs, rfl, fp, zx, r1⟩ := rpv_lst S.fr rx
    cases q : atI ds i with
    | none => exact (RX.bad_elim h (by simp only [dIx, q])).elim
    | some d =>
      obtain ⟨v, e1, rv⟩ := at_rp r1 q
      exact .inl ⟨p, xs, i, v, rfl, rpv_int ry, .inl fp, e1, pd_now S h (by simp only [dIx, q]) rv⟩
  | tuple ds =>
    cases e <;> try exact (RX.bad_elim h rfl).elim
    rename_i i
    obtain ⟨p, xs, rfl, fp, hp, zx, r1⟩ := rpv_tup S.fr rx
    cases q : atI ds i with
    | none => exact (RX.bad_elim h (by simp only [dIx, q])).elim
    | some d =>
      obtain ⟨v, e1, rv⟩ := at_rp r1 q
      exact .inr (.inl ⟨p, xs, i, v, rfl, rpv_int ry, .of hp, e1, pd_now S h (by simp only [dIx, q]) rv⟩)
  | str z =>
    cases e <;> try exact (RX.bad_elim h rfl).elim
    rename_i i
    cases q : atI z.cps.toList i with
    | none => exact (RX.bad_elim h (by simp only [dIx, q])).elim
    | some c =>
      by_cases hz : z.length ≤ sizeLine
      · exact .inr (.inr ⟨z, i, c, rpv_str rx, rpv_int ry, hz, q, pd_now (d := .str ⟨#[c]⟩) S h (by simp only [dIx, q, if_pos hz]) rfl⟩)
      · exact (RX.bad_elim h (by simp only [dIx, q, if_neg hz])).elim
  | _ => exact (RX.bad_elim h rfl).elim
theorem m_ix (ha : PE X a (tL X.K C ma)) (hb : PE X b (tL X.K C mb)) (hs : PlainIx b := by exact fun _ _ => rfl) : PE X (.Subscript a b pos) (tM X.K C (e2 dIx ma mb)) :=
  pe_imp (pe_ix ix_seq ha hb hs) fun σ H Q h => e2_read op_ix h

/-! ### slices -/
def tP (K : PySem.W.Frag) (C : SC) (m : M (Option Int)) : TO := fun σ H Q => ∃ B F ρ, SR K C B F σ H ρ ∧ RX C B (fun o ρ => ∀ F' H', Same F F' → SR K C B F' σ H' ρ → Q o H') (m ρ)
theorem mp_no : L2.PO X none (tP X.K C (pure none)) := ⟨fun pins s σ H Q I h => po_none.run pins s σ H Q I (by
  obtain ⟨B, F, ρ, S, h⟩ := h
  exact h F H (Same.refl _) S)⟩
def ePart (m : M (M D)) : M (Option Int) := m >>= fun x => x >>= fun d => M.lift (match d with | .int i => .ok (some i) | _ => .bad)
theorem mp_so (h : PE X a (tL X.K C ma)) : L2.PO X (some a) (tP X.K C (ePart ma)) := ⟨fun pins s σ H Q I q => (po_some h).run pins s σ H Q I (by
  obtain ⟨B, F, ρ, S, q⟩ := q
  refine tL.of S q.bind fun la ρ1 h1 v F1 H1 s1 S1 r1 => ?_
  obtain ⟨d, rd, h3⟩ := late_step S1 r1 h1
  cases d <;> try exact (RX.bad_elim h3 rfl).elim
  exact ⟨_, rpv_int rd, h3 F1 H1 s1 S1⟩)⟩
def cutD (xs : List D) (lo hi : Option Int) : List D := (xs.drop (HT.sIx xs.length 0 lo)).take (HT.sIx xs.length xs.length hi - HT.sIx xs.length 0 lo)
theorem cut_rp {K : PySem.W.Frag} {F : Hp} {ds : List D} {vs : List V} {lo hi : Option Int} (r : RpAll K F ds vs) : RpAll K F (cutD ds lo hi) (cutV vs lo hi) := by
  unfold cutD cutV
  rw [r.len]
  exact (r.drop _).take _
theorem cut_whole {ds : List D} {lo hi : Option Int} (h : HT.sIx ds.length 0 lo = 0 ∧ HT.sIx ds.length ds.length hi = ds.length) : cutD ds lo hi = ds := by
  unfold cutD
  rw [h.1, h.2]
  simp
def dSl : D → Option Int → Option Int → Res D
  | .tuple ds, lo, hi => .ok (.tuple (cutD ds lo hi))
  | .list ds, lo, hi => .ok (.list (cutD ds lo hi))
  | _, _, _ => .bad
def eSl {α : Type} (g : D → Option Int → Option Int → Res α) (ma : M (M D)) (ml mh : M (Option Int)) : M α := ma >>= fun x => ml >>= fun l => mh >>= fun h => x >>= fun d => M.lift (g d l h)
variable {ml mh : M (Option Int)} {lo hi : Option Expr}
theorem eSl_read {g : D → Option Int → Option Int → Res D} {r : V → Option Int → Option Int → Hp → VK → Prop}
    (k : ∀ B F σ H ρ x d l u Q, SR X.K C B F σ H ρ → RpV X.K F H d x → RX C B (PD X.K C B σ F Q) (M.lift (g d l u) ρ) → r x l u H Q) {σ : L2.St} {H : Hp} {Q : VK} (h : tM X.K C (eSl g ma ml mh) σ H Q) : tSl r (tL X.K C ma) (tP X.K C ml) (tP X.K C mh) σ H Q := by
  obtain ⟨B, F, ρ, S, q⟩ := h
  refine tL.of S q.bind fun la ρ1 h1 v F1 H1 s1 S1 r1 => ?_
  refine ⟨B, F1, ρ1, S1, h1.bind.imp fun l ρ2 h2 F2 H2 s2 S2 => ?_⟩
  refine ⟨B, F2, ρ2, S2, h2.bind.imp fun u ρ3 h3 F3 H3 s3 S3 => ?_⟩
  obtain ⟨d, rd, h4⟩ := late_step S3 (r1.mono (s2.trans s3)) h3
  exact k B F3 σ H3 ρ3 v d l u Q S3 rd (h4.imp fun _ _ q => q.mono (s1.trans (s2.trans s3)))
theorem eSlO_read {g : D → Option Int → Option Int → Res (List D)} {r : V → Option Int → Option Int → Hp → VK → Prop}
    (k : ∀ B F σ H ρ x d l u Q, SR X.K C B F σ H ρ → RpV X.K F H d x → RX C B (PO X.K C B σ F Q) (M.lift (g d l u) ρ) → r x l u H Q) {σ : L2.St} {H : Hp} {Q : VK} (h : tO X.K C (eSl g ma ml mh) σ H Q) : tSl r (tL X.K C ma) (tP X.K C ml) (tP X.K C mh) σ H Q := by
  obtain ⟨B, F, ρ, S, q⟩ := h
  refine tL.of S q.bind fun la ρ1 h1 v F1 H1 s1 S1 r1 => ?_
  refine ⟨B, F1, ρ1, S1, h1.bind.imp fun l ρ2 h2 F2 H2 s2 S2 => ?_⟩
  refine ⟨B, F2, ρ2, S2, h2.bind.imp fun u ρ3 h3 F3 H3 s3 S3 => ?_⟩
  obtain ⟨d, rd, h4⟩ := late_step S3 (r1.mono (s2.trans s3)) h3
  exact k B F3 σ H3 ρ3 v d l u Q S3 rd (h4.imp fun _ _ q => q.mono (s1.trans (s2.trans s3)))
theorem m_sl (ha : PE X a (tL X.K C ma)) (hl : L2.PO X lo (tP X.K C ml)) (hh : L2.PO X hi (tP X.K C mh)) : PE X (.Subscript a (.Slice lo hi none p2) pos) (tM X.K C (eSl dSl ma ml mh)) :=
  pe_imp (pe_slice (sl_tupA.or sl_list) ha hl hh) fun σ H Q h => eSl_read (fun B F σ H ρ x d l u Q S rx h => by
    cases d <;> try exact (RX.bad_elim h rfl).elim
    · rename_i ds
      obtain ⟨p, xs, rfl, fp, zx, r1⟩ := rpv_lst S.fr rx
      exact .inr ⟨p, xs, rfl, .inl fp, fun p' np => pd_new S h rfl np ⟨p', _, rfl, .inl upd_same, Nat.le_trans (cutV_length _ _ _) zx, (cut_rp r1).mono (same_upd (S.fresh np).1)⟩⟩
    · rename_i ds
      obtain ⟨p, xs, rfl, fp, hp, zx, r1⟩ := rpv_tup S.fr rx
      refine .inl ⟨p, xs, rfl, .of hp, fun w => ?_, fun w p' np => pd_new S h rfl np ⟨p', _, rfl, upd_same, Nat.le_trans (cutV_length _ _ _) zx, (cut_rp r1).mono (same_upd (S.fresh np).1)⟩⟩
      rw [← r1.len] at w
      exact pd_now (d := .tuple ds) S h (by simp only [dSl, cut_whole w]) ⟨p, xs, rfl, fp, zx, r1⟩) h
def gSl : D → Option Int → Option Int → Res (List D)
  | .list ds, lo, hi => .ok (cutD ds lo hi)
  | _, _, _ => .bad
theorem m_slO (ha : PE X a (tL X.K C ma)) (hl : L2.PO X lo (tP X.K C ml)) (hh : L2.PO X hi (tP X.K C mh)) : PE X (.Subscript a (.Slice lo hi none p2) pos) (tO X.K C (eSl gSl ma ml mh)) :=
  pe_imp (pe_slice sl_list ha hl hh) fun σ H Q h => eSlO_read (fun B F σ H ρ x d l u Q S rx h => by
    cases d <;> try exact (RX.bad_elim h rfl).elim
    rename_i ds
    obtain ⟨p, xs, rfl, fp, zx, r1⟩ := rpv_lst S.fr rx
    exact ⟨p, xs, rfl, .inl fp, fun p' np => po_new S h rfl np (Nat.le_trans (cutV_length _ _ _) zx) (cut_rp r1)⟩) h

/-! ### displays, arguments -/
variable {es : List Expr} {va : M D} {vs : M (List D)}
theorem ma_nil : PA X [] (tA X.K C (pure [])) := pa_imp pa_nil fun σ H Q ⟨B, F, ρ, S, q⟩ => q [] F H (Same.refl _) S rfl
def eCons (va : M D) (vs : M (List D)) : M (List D) := va >>= fun d => vs >>= fun ds => pure (d :: ds)
theorem ma_cons (ha : PE X a (tM X.K C va)) (hs : PA X es (tA X.K C vs)) (h : starEach (a :: es) X.env = (false, eval a X.env) :: starEach es X.env := by rfl) : PA X (a :: es) (tA X.K C (eCons va vs)) :=
  pa_imp (pa_cons ha hs h) fun σ H Q ⟨B, F, ρ, S, q⟩ => by
    refine tM.of S q.bind fun d ρ1 h1 v F1 H1 s1 S1 r1 => ?_
    refine tA.of S1 h1.bind fun ds ρ2 h2 ws F2 H2 s2 S2 r2 => ?_
    exact h2 (v :: ws) F2 H2 (s1.trans s2) S2 (.cons (r1.mono s2) r2)
def few (ds : List D) : Res (List D) := if ds.length ≤ sizeLine then .ok ds else .bad
theorem few_read {α : Type} {Φ : α → En → Prop} {ds : List D} {f : List D → M α} {ρ : En} (h : RX C B Φ ((M.lift (few ds) >>= f) ρ)) : ds.length ≤ sizeLine ∧ RX C B Φ (f ds ρ) := by
  unfold few at h
  by_cases z : ds.length ≤ sizeLine
  · rw [if_pos z] at h
    exact ⟨z, h⟩
  · rw [if_neg z] at h
    exact (show False from h).elim
def eTup (vs : M (List D)) : M D := vs >>= fun ds => M.lift (few ds) >>= fun ds => pure (.tuple ds)
theorem m_tup {k : Nat} {ctx} (hs : PA X es (tA X.K C vs)) : PE X (.Tuple es ctx pos) (tM X.K C (eTup vs)) :=
  pe_imp (pe_tup hs) fun σ H Q ⟨B, F, ρ, S, q⟩ => by
    refine tA.of S q.bind fun ds ρ1 h1 ws F1 H1 s1 S1 r1 => ?_
    obtain ⟨z, h2⟩ := few_read h1
    refine ⟨by rw [← r1.len]; exact z, fun p np => ?_⟩
    exact h2 _ _ _ (s1.trans (same_upd (S1.fresh np).1)) (S1.alloc np) ⟨p, ws, rfl, upd_same, by rw [← r1.len]; exact z, r1.mono (same_upd (S1.fresh np).1)⟩
def eLst (vs : M (List D)) : M (List D) := vs >>= fun ds => M.lift (few ds)
theorem m_lstO (hs : PA X es (tA X.K C vs)) : PE X (.List es pos) (tO X.K C (eLst vs)) :=
  pe_imp (pe_lst hs) fun σ H Q ⟨B, F, ρ, S, q⟩ => by
    refine tA.of S q.bind fun ds ρ1 h1 ws F1 H1 s1 S1 r1 => ?_
    by_cases z : ds.length ≤ sizeLine
    · refine ⟨by rw [← r1.len]; exact z, fun p np => ?_⟩
      exact po_new S1 (h1.imp fun _ _ q => q.mono s1) (by unfold few; rw [if_pos z]) np (by rw [← r1.len]; exact z) r1
    · exact (RX.bad_elim h1 (by unfold few; rw [if_neg z])).elim
end
end VS

set_option Elab.async false
set_option linter.all false
set_option maxRecDepth 100000
set_option maxHeartbeats 4000000
namespace VS
open PySem PySem.Spec PyProof.Rows L2
section
variable {X : Cx} {C : SC} {B : Bs} {a b c : Expr} {pos p p2 : Pos} {ma mb mc : M (M D)} {x : Str}
/-! ### a built-in with one argument, two arguments -/
def Call1 (X : Cx) (C : SC) (f : Value) (g : D → Res D) : Prop := ∃ r, CallR X f r ∧ Op1 X C g (fun x H Q => r [x] H Q)
def Call1O (X : Cx) (C : SC) (f : Value) (g : D → Res (List D)) : Prop := ∃ r, CallR X f r ∧ Op1O X C g (fun x H Q => r [x] H Q)
def Call2 (X : Cx) (C : SC) (f : Value) (g : D → D → Res D) : Prop := ∃ r, CallR X f r ∧ Op2 X C g (fun x y H Q => r [x, y] H Q)
theorem tcb1 {r : List V → Hp → VK → Prop} {ta : TE} {σ : L2.St} {H : Hp} {Q : VK} (h : ta σ H (fun x H1 => r [x] H1 Q)) : tCB r (tCons ta tNil) σ H Q := h
theorem m_callB1 {id : String} {g : D → Res D} (k : Call1 X C (.builtin id) g) (hm : X.mg x = none) (ha : PE X a (tL X.K C ma)) (hg : Gl X x := by rfl) (hv : bootBuiltins x = some (.builtin id) := by decide +kernel) (hn : x ≠ "__name__" := by decide) (hdb : (x == ("__debug__" : Str)) = false := by decide)
    (he : starEach [a] X.env = (false, eval a X.env) :: starEach [] X.env := by rfl) (hpl : (backTo pos (starEach [] X.env)).any (·.1) = false := by rfl) : PE X (.Call (.Name x p) [a] [] pos) (tM X.K C (e1 g ma)) :=
  let ⟨_, o, q⟩ := k
  pe_imp (pe_callB o hg hm hv (pa_cons ha pa_nil he) hn hdb he hpl) fun _ _ _ h => tcb1 (e1_read q h)
theorem m_callB1O {id : String} {g : D → Res (List D)} (k : Call1O X C (.builtin id) g) (hm : X.mg x = none) (ha : PE X a (tL X.K C ma)) (hg : Gl X x := by rfl) (hv : bootBuiltins x = some (.builtin id) := by decide +kernel) (hn : x ≠ "__name__" := by decide) (hdb : (x == ("__debug__" : Str)) = false := by decide)
    (he : starEach [a] X.env = (false, eval a X.env) :: starEach [] X.env := by rfl) (hpl : (backTo pos (starEach [] X.env)).any (·.1) = false := by rfl) : PE X (.Call (.Name x p) [a] [] pos) (tO X.K C (e1 g ma)) :=
  let ⟨_, o, q⟩ := k
  pe_imp (pe_callB o hg hm hv (pa_cons ha pa_nil he) hn hdb he hpl) fun _ _ _ h => tcb1 (e1O_read q h)
theorem m_callT1 {T : String} {g : D → Res D} (k : Call1 X C (.type T) g) (hm : X.mg x = none) (ha : PE X a (tL X.K C ma)) (hg : Gl X x := by rfl) (hv : bootBuiltins x = some (.type T) := by decide +kernel) (hn : x ≠ "__name__" := by decide) (hdb : (x == ("__debug__" : Str)) = false := by decide)
    (he : starEach [a] X.env = (false, eval a X.env) :: starEach [] X.env := by rfl) (hpl : (backTo pos (starEach [] X.env)).any (·.1) = false := by rfl) : PE X (.Call (.Name x p) [a] [] pos) (tM X.K C (e1 g ma)) :=
  let ⟨_, o, q⟩ := k
  pe_imp (pe_callTy o hg hm hv (pa_cons ha pa_nil he) hn hdb he hpl) fun _ _ _ h => tcb1 (e1_read q h)
theorem m_callT1O {T : String} {g : D → Res (List D)} (k : Call1O X C (.type T) g) (hm : X.mg x = none) (ha : PE X a (tL X.K C ma)) (hg : Gl X x := by rfl) (hv : bootBuiltins x = some (.type T) := by decide +kernel) (hn : x ≠ "__name__" := by decide) (hdb : (x == ("__debug__" : Str)) = false := by decide)
    (he : starEach [a] X.env = (false, eval a X.env) :: starEach [] X.env := by rfl) (hpl : (backTo pos (starEach [] X.env)).any (·.1) = false := by rfl) : PE X (.Call (.Name x p) [a] [] pos) (tO X.K C (e1 g ma)) :=
  let ⟨_, o, q⟩ := k
  pe_imp (pe_callTy o hg hm hv (pa_cons ha pa_nil he) hn hdb he hpl) fun _ _ _ h => tcb1 (e1O_read q h)
theorem m_callB2 {id : String} {g : D → D → Res D} (k : Call2 X C (.builtin id) g) (hm : X.mg x = none) (ha : PE X a (tL X.K C ma)) (hb : PE X b (tL X.K C mb)) (hg : Gl X x := by rfl) (hv : bootBuiltins x = some (.builtin id) := by decide +kernel) (hn : x ≠ "__name__" := by decide) (hdb : (x == ("__debug__" : Str)) = false := by decide)
    (he : starEach [a, b] X.env = (false, eval a X.env) :: starEach [b] X.env := by rfl) (he2 : starEach [b] X.env = (false, eval b X.env) :: starEach [] X.env := by rfl) (hpl : (backTo pos (starEach [b] X.env)).any (·.1) = false := by rfl) : PE X (.Call (.Name x p) [a, b] [] pos) (tM X.K C (e2 g ma mb)) :=
  let ⟨_, o, q⟩ := k
  pe_imp (pe_callB o hg hm hv (pa_cons ha (pa_cons hb pa_nil he2) he) hn hdb he hpl) fun _ _ _ h => e2_read q h

/-! ### which -/
def gLen : D → Res D
  | .list xs => .ok (.int xs.length)
  | .tuple xs => .ok (.int xs.length)
  | .str z => if z.length ≤ sizeLine then .ok (.int z.length) else .bad
  | _ => .bad
theorem f_len : Call1 X C (.builtin "len") gLen := ⟨_, call_len, fun B F σ H ρ x d Q S rx h => by
  cases d <;> try exact (RX.bad_elim h rfl).elim
  · rename_i z
    by_cases hz : z.length ≤ sizeLine
    · exact ⟨x, z.length, rfl, by rw [rpv_str rx]; exact ⟨hz, rfl⟩, pd_in S h (by simp only [gLen, if_pos hz])⟩
    · exact (RX.bad_elim h (by simp only [gLen, if_neg hz])).elim
  · obtain ⟨p, xs, rfl, fp, zx, r1⟩ := rpv_lst S.fr rx
    exact ⟨_, xs.length, rfl, .inl ⟨xs, .inl fp, rfl⟩, pd_in S h (by simp only [gLen, r1.len])⟩
  · obtain ⟨p, xs, rfl, fp, hp, zx, r1⟩ := rpv_tup S.fr rx
    exact ⟨_, xs.length, rfl, .inr ⟨xs, .of hp, rfl⟩, pd_in S h (by simp only [gLen, r1.len])⟩⟩
def gAbs : D → Res D
  | .int i => .ok (.int (if i < 0 then -i else i))
  | _ => .bad
theorem f_abs : Call1 X C (.builtin "abs") gAbs := ⟨_, call_abs, fun B F σ H ρ x d Q S rx h => by
  cases d <;> try exact (RX.bad_elim h rfl).elim
  exact ⟨_, by rw [rpv_int rx], pd_in S h rfl⟩⟩
def gInt : D → Res D
  | .int i => .ok (.int i)
  | .bool k => .ok (.int (if k then 1 else 0))
  | _ => .bad
theorem f_int : Call1 X C (.type "int") gInt := ⟨_, call_int1, fun B F σ H ρ x d Q S rx h => by
  cases d <;> try exact (RX.bad_elim h rfl).elim
  · exact .inr ⟨_, by rw [rpv_bool rx], pd_in S h rfl⟩
  · exact .inl ⟨_, by rw [rpv_int rx], pd_in S h rfl⟩⟩
def gStr : D → Res D
  | .int i => if i.natAbs.log2 < 1920 then .ok (.str (toString i)) else .bad
  | _ => .bad
theorem f_str : Call1 X C (.type "str") gStr := ⟨_, call_str_int, fun B F σ H ρ x d Q S rx h => by
  cases d <;> try exact (RX.bad_elim h rfl).elim
  rename_i i
  by_cases z : i.natAbs.log2 < 1920
  · exact ⟨i, by rw [rpv_int rx], z, pd_now (d := .str (toString i)) S h (by simp only [gStr, if_pos z]) rfl⟩
  · exact (RX.bad_elim h (by simp only [gStr, if_neg z])).elim⟩
def boolsOf : List D → Option (List Bool)
  | [] => some []
  | .bool i :: r => (boolsOf r).map (i :: ·)
  | _ => none
theorem boolsOf_eq : ∀ {ds : List D} {ns : List Bool}, boolsOf ds = some ns → ds = ns.map PyData.bool
  | [], ns, h => by cases h; rfl
  | d :: ds, ns, h => by
    cases d <;> simp [boolsOf] at h
    obtain ⟨m, h1, rfl⟩ := h
    simp [boolsOf_eq h1]
theorem boolsOf_map : ∀ (ns : List Bool), boolsOf (ns.map PyData.bool) = some ns
  | [] => rfl
  | n :: ns => by simp [boolsOf, boolsOf_map ns]
def gBools (f : List Bool → Bool) : D → Res D
  | .list xs => match boolsOf xs with
    | some bs => .ok (.bool (f bs))
    | none => .bad
  | _ => .bad
theorem f_all (hc : X.calm = true) : Call1 X C (.builtin "all") (gBools fun bs => bs.all id) := ⟨_, cr_all hc, fun B F σ H ρ x d Q S rx h => by
  cases d <;> try exact (RX.bad_elim h rfl).elim
  rename_i ds
  cases e : boolsOf ds with
  | none => exact (RX.bad_elim h (by simp only [gBools, e])).elim
  | some bs =>
    have z := boolsOf_eq e
    subst z
    obtain ⟨p, xs, rfl, fp, zx, r1⟩ := rpv_lst S.fr rx
    have y := r1.bools
    subst y
    exact ⟨p, bs, rfl, .inl fp, pd_bl S h (by simp only [gBools, e])⟩⟩
theorem f_any (hc : X.calm = true) : Call1 X C (.builtin "any") (gBools fun bs => bs.any id) := ⟨_, cr_any hc, fun B F σ H ρ x d Q S rx h => by
  cases d <;> try exact (RX.bad_elim h rfl).elim
  rename_i ds
  cases e : boolsOf ds with
  | none => exact (RX.bad_elim h (by simp only [gBools, e])).elim
  | some bs =>
    have z := boolsOf_eq e
    subst z
    obtain ⟨p, xs, rfl, fp, zx, r1⟩ := rpv_lst S.fr rx
    have y := r1.bools
    subst y
    exact ⟨p, bs, rfl, .inl fp, pd_bl S h (by simp only [gBools, e])⟩⟩
def gSum : D → Res D
  | .list xs => match intsOf xs with
    | some ns => .ok (.int ns.sum)
    | none => .bad
  | _ => .bad
theorem f_sum (hc : X.calm = true) : Call1 X C (.builtin "sum") gSum := ⟨_, cr_sum hc, fun B F σ H ρ x d Q S rx h => by
  cases d <;> try exact (RX.bad_elim h rfl).elim
  rename_i ds
  cases e : intsOf ds with
  | none => exact (RX.bad_elim h (by simp only [gSum, e])).elim
  | some ns =>
    have z := intsOf_eq e
    subst z
    obtain ⟨p, xs, rfl, fp, zx, r1⟩ := rpv_lst S.fr rx
    have y := r1.ints
    subst y
    exact ⟨p, ns, rfl, .inl fp, pd_in S h (by simp only [gSum, e])⟩⟩
def gMax : D → D → Res D := gI fun i j => .ok (.int (if j > i then j else i))
theorem f_max (hc : X.calm = true) : Call2 X C (.builtin "max") gMax := ⟨_, call_max2 hc, fun B F σ H ρ x y d e Q S rx ry h => by
  cases d <;> try exact (RX.bad_elim h rfl).elim
  cases e <;> try exact (RX.bad_elim h rfl).elim
  exact ⟨_, _, by rw [rpv_int rx, rpv_int ry], pd_in S h rfl⟩⟩
def gMin : D → D → Res D := gI fun i j => .ok (.int (if j < i then j else i))
theorem f_min (hc : X.calm = true) : Call2 X C (.builtin "min") gMin := ⟨_, call_min2 hc, fun B F σ H ρ x y d e Q S rx ry h => by
  cases d <;> try exact (RX.bad_elim h rfl).elim
  cases e <;> try exact (RX.bad_elim h rfl).elim
  exact ⟨_, _, by rw [rpv_int rx, rpv_int ry], pd_in S h rfl⟩⟩
def gTup : D → Res D
  | .list xs => .ok (.tuple xs)
  | .tuple xs => .ok (.tuple xs)
  | _ => .bad
theorem f_tuple : Call1 X C (.type "tuple") gTup := ⟨_, call_tuple_of, fun B F σ H ρ x d Q S rx h => by
  cases d <;> try exact (RX.bad_elim h rfl).elim
  · obtain ⟨p, xs, rfl, fp, zx, r1⟩ := rpv_lst S.fr rx
    exact ⟨p, xs, rfl, .inl ⟨.inl fp, fun l nl => pd_new S h rfl nl ⟨l, xs, rfl, upd_same, zx, r1.mono (same_upd (S.fresh nl).1)⟩⟩⟩
  · obtain ⟨p, xs, rfl, fp, hp, zx, r1⟩ := rpv_tup S.fr rx
    exact ⟨p, xs, rfl, .inr ⟨.of hp, pd_now S h rfl ⟨p, xs, rfl, fp, zx, r1⟩⟩⟩⟩
def gList : D → Res (List D)
  | .list xs => .ok xs
  | .tuple xs => .ok xs
  | _ => .bad
theorem f_list : Call1O X C (.type "list") gList := ⟨_, call_list_of, fun B F σ H ρ x d Q S rx h => by
  cases d <;> try exact (RX.bad_elim h rfl).elim
  · obtain ⟨p, xs, rfl, fp, zx, r1⟩ := rpv_lst S.fr rx
    exact ⟨p, xs, rfl, .inl (.inl fp), fun l nl => po_new S h rfl nl zx r1⟩
  · obtain ⟨p, xs, rfl, fp, hp, zx, r1⟩ := rpv_tup S.fr rx
    exact ⟨p, xs, rfl, .inr (.of hp), fun l nl => po_new S h rfl nl zx r1⟩⟩
/-! ### sorted, of whole numbers -/
def sortI (ns : List Int) : List Int := ns.mergeSort (fun a b => decide (a ≤ b))
theorem sortI_perm (ns : List Int) : (sortI ns).Perm ns := List.mergeSort_perm _ _
theorem sortI_sorted (ns : List Int) : (sortI ns).Pairwise (· ≤ ·) := by
  have h := List.pairwise_mergeSort (le := fun a b : Int => decide (a ≤ b)) (fun a b c h1 h2 => by simp at *; omega) (fun a b => by simp; omega) ns
  exact h.imp fun h => by simpa using h
theorem sorted_unique : ∀ {xs ys : List Int}, xs.Perm ys → xs.Pairwise (· ≤ ·) → ys.Pairwise (· ≤ ·) → xs = ys
  | [], ys, h, _, _ => by rw [List.nil_perm.mp h]
  | x :: xs, [], h, _, _ => by exact absurd h.symm (by simp)
  | x :: xs, y :: ys, h, h1, h2 => by
    have a1 := List.pairwise_cons.mp h1
    have a2 := List.pairwise_cons.mp h2
    have mx : x ∈ y :: ys := h.mem_iff.mp List.mem_cons_self
    have my : y ∈ x :: xs := h.mem_iff.mpr List.mem_cons_self
    have e : x = y := by
      rcases List.mem_cons.mp mx with e | e
      · exact e
      · rcases List.mem_cons.mp my with e' | e'
        · exact e'.symm
        · have := a1.1 _ e'
          have := a2.1 _ e
          omega
    subst e
    rw [sorted_unique (List.Perm.cons_inv h) a1.2 a2.2]
/-! ### list(range(a, b)), tuple(range(a, b)) -/
def rgD (a b : Int) : List D := (List.range (b - a).toNat).map fun i => PyData.int (a + (i : Nat))
theorem rg_rp {K : PySem.W.Frag} {F : Hp} (a b : Int) : RpAll K F (rgD a b) (rgV a b) := by
  unfold rgD rgV
  generalize List.range (b - a).toNat = l
  induction l with
  | nil => exact rfl
  | cons i l ih => exact ⟨_, _, rfl, rfl, ih⟩
instance (a b : Int) : Decidable (RgOk a b) := by unfold RgOk; infer_instance
def tRg (K : PySem.W.Frag) (C : SC) (m : M (Int × Int)) : L2.St → Hp → (Int → Int → Hp → Prop) → Prop := fun σ H Q => ∃ B F ρ, SR K C B F σ H ρ ∧ RX C B (fun p ρ => ∀ F' H', Same F F' → SR K C B F' σ H' ρ → Q p.1 p.2 H') (m ρ)
def asI : D → Res Int
  | .int i => .ok i
  | _ => .bad
def eRg1 (ma : M (M D)) : M (Int × Int) := ma >>= fun x => x >>= fun d => M.lift (asI d) >>= fun n => pure (0, n)
def eRg2 (ma mb : M (M D)) : M (Int × Int) := ma >>= fun x => mb >>= fun y => x >>= fun d => y >>= fun e => M.lift (asI d) >>= fun n => M.lift (asI e) >>= fun k => pure (n, k)
theorem asI_step {α : Type} {Φ : α → En → Prop} {ρ : En} {d : D} {f : Int → M α} (h : RX C B Φ ((M.lift (asI d) >>= f) ρ)) : ∃ i, d = .int i ∧ RX C B Φ (f i ρ) := by
  cases d <;> try exact (show False from h).elim
  exact ⟨_, rfl, h⟩
theorem rg1 (hm : X.mg "range" = none) (ha : PE X a (tL X.K C ma)) (hg : Gl X "range" := by rfl) (na : starEach [a] X.env = (false, eval a X.env) :: starEach [] X.env := by rfl) : PRg X (.Call (.Name "range" p) [a] [] pos) (tRg X.K C (eRg1 ma)) := by
  intro pins s σ H Q I q
  refine prg_1 hg hm ha na pins s σ H Q I ?_
  obtain ⟨B, F, ρ, S, q⟩ := q
  refine tL.of S q.bind fun la ρ1 h1 v F1 H1 s1 S1 r1 => ?_
  obtain ⟨d, rd, h3⟩ := late_step S1 r1 h1
  obtain ⟨i, rfl, h4⟩ := asI_step h3
  exact ⟨i, rpv_int rd, h4 F1 H1 s1 S1⟩
theorem rg2 (hm : X.mg "range" = none) (ha : PE X a (tL X.K C ma)) (hb : PE X b (tL X.K C mb)) (hg : Gl X "range" := by rfl) (na : starEach [a, b] X.env = (false, eval a X.env) :: starEach [b] X.env := by rfl)
    (nb : starEach [b] X.env = (false, eval b X.env) :: starEach [] X.env := by rfl) (hp : (backTo pos (starEach [b] X.env)).any (·.1) = false := by rfl) : PRg X (.Call (.Name "range" p) [a, b] [] pos) (tRg X.K C (eRg2 ma mb)) := by
  intro pins s σ H Q I q
  refine prg_2 hg hm ha hb na nb hp pins s σ H Q I ?_
  obtain ⟨B, F, ρ, S, q⟩ := q
  refine tL.of S q.bind fun la ρ1 h1 v F1 H1 s1 S1 r1 => ?_
  refine tL.of S1 h1.bind fun lb ρ2 h2 u F2 H2 s2 S2 r2 => ?_
  obtain ⟨d, rd, h3⟩ := late_step S2 (r1.mono s2) h2
  obtain ⟨e, re, h4⟩ := late_step S2 r2 h3
  obtain ⟨i, rfl, h5⟩ := asI_step h4
  obtain ⟨j, rfl, h6⟩ := asI_step h5
  exact ⟨i, j, rpv_int rd, rpv_int re, h6 F2 H2 (s1.trans s2) S2⟩
def gRgL (p : Int × Int) : Res (List D) := if RgOk p.1 p.2 then .ok (rgD p.1 p.2) else .bad
def gRgT (p : Int × Int) : Res D := if RgOk p.1 p.2 then .ok (.tuple (rgD p.1 p.2)) else .bad
theorem rgOk_len {a b : Int} (h : RgOk a b) : (rgV a b).length ≤ sizeLine := by rw [rgV_length, sizeLine_eq]; have := h.2.2.2.2; omega
theorem m_listRg {m : M (Int × Int)} (hc : X.calm = true) (hm : X.mg "list" = none) (he : PRg X a (tRg X.K C m)) (hg : Gl X "list" := by rfl) (na : starEach [a] X.env = (false, eval a X.env) :: starEach [] X.env := by rfl) : PE X (.Call (.Name "list" p) [a] [] pos) (tO X.K C (m >>= fun p => M.lift (gRgL p))) :=
  pe_imp (pe_listRg hc hg hm he na) fun σ H Q ⟨B, F, ρ, S, q⟩ => ⟨B, F, ρ, S, q.bind.imp fun pr ρ1 h1 F1 H1 s1 S1 => by
    obtain ⟨i, j⟩ := pr
    by_cases z : RgOk i j
    · exact ⟨z, fun q nq => po_new S1 (h1.imp fun _ _ q => q.mono s1) (by unfold gRgL; rw [if_pos z]) nq (rgOk_len z) (rg_rp i j)⟩
    · exact (RX.bad_elim h1 (by unfold gRgL; rw [if_neg z])).elim⟩
theorem m_tupRg {m : M (Int × Int)} (hc : X.calm = true) (hm : X.mg "tuple" = none) (he : PRg X a (tRg X.K C m)) (hg : Gl X "tuple" := by rfl) (na : starEach [a] X.env = (false, eval a X.env) :: starEach [] X.env := by rfl) : PE X (.Call (.Name "tuple" p) [a] [] pos) (tM X.K C (m >>= fun p => M.lift (gRgT p))) :=
  pe_imp (pe_tupRg hc hg hm he na) fun σ H Q ⟨B, F, ρ, S, q⟩ => ⟨B, F, ρ, S, q.bind.imp fun pr ρ1 h1 F1 H1 s1 S1 => by
    obtain ⟨i, j⟩ := pr
    by_cases z : RgOk i j
    · exact ⟨z, fun q nq => pd_new (d := .tuple (rgD i j)) S1 (h1.imp fun _ _ q => q.mono s1) (by unfold gRgT; rw [if_pos z]) nq ⟨q, _, rfl, upd_same, rgOk_len z, rg_rp i j⟩⟩
    · exact (RX.bad_elim h1 (by unfold gRgT; rw [if_neg z])).elim⟩
/-! ### isinstance -/
def tyD : D → String
  | .none => "NoneType"
  | .bool _ => "bool"
  | .int _ => "int"
  | .str _ => "str"
  | .list _ => "list"
  | .tuple _ => "tuple"
  | .dict _ => "dict"
theorem rpv_ty {F H : Hp} {d : D} {v : V} (s : Same F H) (h : RpV X.K F H d v) : TyX X.K H v (.type (tyD d)) := by
  cases d with
  | none => rw [rpv_none h]; exact .base .non
  | bool b => rw [rpv_bool h]; exact .base (.bl _)
  | int b => rw [rpv_int h]; exact .base (.int _)
  | str b => rw [rpv_str h]; exact .base (.str _)
  | list ds =>
    obtain ⟨p, xs, rfl, fp, zx, r1⟩ := rpv_lst s h
    rcases fp with q | ⟨o, q⟩
    · exact .base (.lst q)
    · exact .base (.frz q)
  | tuple ds =>
    obtain ⟨p, xs, rfl, fp, hp, zx, r1⟩ := rpv_tup s h
    exact .base (.tup hp)
  | dict kvs =>
    rcases h with h | ⟨p, xs, ds, e, _⟩
    · obtain ⟨a, kv, rfl, q, _⟩ := (show ∃ a kv, v = .ref a ∧ F a = some (.dK kv) ∧ RpKv X.K F kvs kv from h)
      exact .base (.dK (s _ _ q))
    · cases e
/-- is a value of this type; T one of the written ones -/
def isTy (T : String) (d : D) : Bool := tyD d == T || (tyD d == "bool" && T == "int")
theorem kit_all : (["NoneType", "bool", "int", "str", "list", "tuple", "dict"].all fun a => ["int", "bool", "str", "tuple", "list", "dict"].all fun b => kitB a b == some (a == b || (a == "bool" && b == "int"))) = true := by decide +kernel
theorem tyD_mem (d : D) : tyD d ∈ ["NoneType", "bool", "int", "str", "list", "tuple", "dict"] := by cases d <;> simp [tyD]
theorem kit_some {T : String} (hT : T ∈ ["int", "bool", "str", "tuple", "list", "dict"]) (d : D) : kitB (tyD d) T = some (isTy T d) := by
  have h := List.all_eq_true.mp (List.all_eq_true.mp kit_all _ (tyD_mem d)) _ hT
  exact eq_of_beq h
def gIsi (T : String) (d : D) : Res D := .ok (.bool (isTy T d))
theorem m_isi {T : String} (hT : T ∈ ["int", "bool", "str", "tuple", "list", "dict"]) (hm : X.mg "isinstance" = none) (hmT : X.mg x = none) (ha : PE X a (tL X.K C ma)) (hg : Gl X "isinstance" := by rfl) (hgT : Gl X x := by rfl) (hvT : bootBuiltins x = some (.type T) := by decide +kernel) (hn : x ≠ "__name__" := by decide) (hdb : (x == ("__debug__" : Str)) = false := by decide)
    (he : starEach [a, .Name x p2] X.env = (false, eval a X.env) :: starEach [.Name x p2] X.env := by rfl) (he2 : starEach [.Name x p2] X.env = (false, eval (.Name x p2) X.env) :: starEach [] X.env := by rfl) (hpl : (backTo pos (starEach [.Name x p2] X.env)).any (·.1) = false := by rfl) :
    PE X (.Call (.Name "isinstance" p) [a, .Name x p2] [] pos) (tM X.K C (e1 (gIsi T) ma)) :=
  pe_imp (pe_callB call_isi hg hm (by decide +kernel) (pa_cons ha (pa_cons (pe_bltn hgT hmT hvT (v := .ty T) rfl hn hdb) pa_nil he2) he) (by decide) (by decide) he hpl) fun σ H Q h =>
    e1_read (r := fun x H Q => rIsi X.K [x, .ty T] H Q) (fun B F σ H ρ x d Q S rx h => ⟨x, .ty T, _, _, _, rfl, .ty T, rpv_ty S.fr rx, kit_ty (kit_some hT d), pd_bl S h rfl⟩) h
theorem isTy_int (d : D) : isTy "int" d = (match d with | .int _ => true | .bool _ => true | _ => false) := by cases d <;> rfl
theorem isTy_bool (d : D) : isTy "bool" d = (match d with | .bool _ => true | _ => false) := by cases d <;> rfl
theorem isTy_str (d : D) : isTy "str" d = (match d with | .str _ => true | _ => false) := by cases d <;> rfl
theorem isTy_tuple (d : D) : isTy "tuple" d = (match d with | .tuple _ => true | _ => false) := by cases d <;> rfl
theorem isTy_list (d : D) : isTy "list" d = (match d with | .list _ => true | _ => false) := by cases d <;> rfl
theorem isTy_dict (d : D) : isTy "dict" d = (match d with | .dict _ => true | _ => false) := by cases d <;> rfl
end
end VS

set_option Elab.async false
set_option linter.all false
set_option maxRecDepth 100000
set_option maxHeartbeats 4000000
namespace VS
open PySem PySem.Spec PyProof.Rows L2
/-! ### what is walked -/
def Yields (K : PySem.W.Frag) (F H : Hp) (d : D) (x : V) (H' : Hp) : Prop :=
  (H' = H ∧ Rp K F d x) ∨ ∃ p xs es, H p = none ∧ H' = upd H p (.tup xs) ∧ x = .ref p ∧ d = .tuple es ∧ xs.length ≤ sizeLine ∧ RpAll K F es xs
def Walks (K : PySem.W.Frag) (J : It) (F : Hp) (ds : List D) : Prop := ∀ i H, Same F H →
  (∀ d, ds[i]? = some d → J.go i H ∧ ∀ x H', J.yld i H x H' → Yields K F H d x H') ∧ (ds.length ≤ i → J.stop i H)
theorem Yields.sr {K : PySem.W.Frag} {C : SC} {B : Bs} {F0 F H H' : Hp} {σ : L2.St} {ρ : En} {d : D} {x : V} (s : Same F0 F) (S : SR K C B F σ H ρ) (y : Yields K F0 H d x H') : ∃ F', Same F F' ∧ SR K C B F' σ H' ρ ∧ Rp K F' d x := by
  rcases y with ⟨rfl, r⟩ | ⟨p, xs, es, np, rfl, rfl, rfl, z, r⟩
  · exact ⟨F, Same.refl _, S, r.mono s⟩
  · have sf : Same F (upd F p (.tup xs)) := same_upd (S.fresh np).1
    exact ⟨_, sf, S.alloc np, p, xs, rfl, upd_same, z, r.mono (s.trans sf)⟩
def tI (K : PySem.W.Frag) (C : SC) (m : M (List D)) : TI := fun σ H R => ∃ B F ρ, SR K C B F σ H ρ ∧ RX C B (fun ds ρ1 => ∀ J F' H', Same F F' → SR K C B F' σ H' ρ1 → Walks K J F' ds → R J H') (m ρ)
theorem walks_list {K : PySem.W.Frag} {F : Hp} {a : Addr} {xs : List V} {ds : List D} (h : Rd F a (.lst xs)) (r : RpAll K F ds xs) (inj : ∀ H xs ys, SqL K H a xs → SqL K H a ys → xs = ys) : Walks K (Itl K a) F ds := fun i H s => by
  have hq : SqL K H a xs := .inl (rd_same s h)
  refine ⟨fun d e => ?_, fun e => ⟨xs, hq, by rw [← r.len]; exact e⟩⟩
  obtain ⟨v, ev, rv⟩ := r.get' e
  refine ⟨⟨xs, v, hq, ev⟩, fun x H' y => .inl ⟨y.1, ?_⟩⟩
  have e2 := y.2 xs hq
  rw [ev] at e2
  cases e2
  exact rv
theorem walks_list' {K : PySem.W.Frag} {F : Hp} {a : Addr} {xs : List V} {ds : List D} (h : Rd F a (.lst xs)) (r : RpAll K F ds xs) : Walks K (Itl K a) F ds := fun i H s => by
  have hq : SqL K H a xs := .inl (rd_same s h)
  refine ⟨fun d e => ?_, fun e => ⟨xs, hq, by rw [← r.len]; exact e⟩⟩
  obtain ⟨v, ev, rv⟩ := r.get' e
  refine ⟨⟨xs, v, hq, ev⟩, fun x H' y => .inl ⟨y.1, ?_⟩⟩
  have e2 := y.2 xs hq
  rw [ev] at e2
  cases e2
  exact rv
theorem walks_tup {K : PySem.W.Frag} {F : Hp} {a : Addr} {xs : List V} {ds : List D} (h : F a = some (.tup xs)) (r : RpAll K F ds xs) : Walks K (Itt K a) F ds := fun i H s => by
  have hq : SqT K H a xs := .of (s _ _ h)
  refine ⟨fun d e => ?_, fun e => ⟨xs, hq, by rw [← r.len]; exact e⟩⟩
  obtain ⟨v, ev, rv⟩ := r.get' e
  refine ⟨⟨xs, v, hq, ev⟩, fun x H' y => .inl ⟨y.1, ?_⟩⟩
  have e2 := y.2 xs hq
  rw [ev] at e2
  cases e2
  exact rv
section
variable {X : Cx} {C : SC} {B : Bs} {a b c tg : Expr} {pos p p2 : Pos} {ma mb mc : M (M D)} {x : Str} {va : M D}
def asL : D → Res (List D)
  | .list xs => .ok xs
  | _ => .bad
def asT : D → Res (List D)
  | .tuple xs => .ok xs
  | _ => .bad
theorem mi_list (h : PE X a (tM X.K C va)) : PI X tg a (tI X.K C (va >>= fun d => M.lift (asL d))) := ⟨fun pins s σ H R I q => (pi_list h).run pins s σ H R I (by
  obtain ⟨B, F, ρ, S, q⟩ := q
  refine tM.of S q.bind fun d ρ1 h1 v F1 H1 s1 S1 r1 => ?_
  cases d <;> try exact (RX.bad_elim h1 rfl).elim
  obtain ⟨p, xs, rfl, fp, zx, r⟩ := r1
  exact ⟨p, rfl, ⟨xs, .inl (rd_same S1.fr fp)⟩, h1 _ F1 H1 s1 S1 (walks_list' fp r)⟩)⟩
theorem mi_tup (h : PE X a (tM X.K C va)) : PI X tg a (tI X.K C (va >>= fun d => M.lift (asT d))) := ⟨fun pins s σ H R I q => (pi_tup h).run pins s σ H R I (by
  obtain ⟨B, F, ρ, S, q⟩ := q
  refine tM.of S q.bind fun d ρ1 h1 v F1 H1 s1 S1 r1 => ?_
  cases d <;> try exact (RX.bad_elim h1 rfl).elim
  obtain ⟨p, xs, rfl, fp, zx, r⟩ := r1
  exact ⟨p, rfl, ⟨xs, .of (S1.fr _ _ fp)⟩, h1 _ F1 H1 s1 S1 (walks_tup fp r)⟩)⟩
theorem PI.or {wi wi' : TI} {e : Expr} (h : PI X tg e wi) (h' : PI X tg e wi') : PI X tg e (fun σ H R => wi σ H R ∨ wi' σ H R) := ⟨fun pins s σ H R I q => by
  rcases q with q | q
  · exact h.run pins s σ H R I q
  · exact h'.run pins s σ H R I q⟩
/-- a list or a tuple -/
def asS : D → Res (List D)
  | .list xs => .ok xs
  | .tuple xs => .ok xs
  | _ => .bad
/-- whichever it is: the library's walk of a value -/
def iSeq (K : PySem.W.Frag) (tl : TE) : TI := fun σ H R => tl σ H fun x H1 => ∃ a, x = .ref a ∧ (((∃ xs, SqL K H1 a xs) ∧ R (Itl K a) H1) ∨ ((∃ xs, SqT K H1 a xs) ∧ R (Itt K a) H1))
theorem pi_seq {l : Expr} {tl : TE} (hl : PE X l tl) : PI X tg l (iSeq X.K tl) := by
  refine ⟨fun pins s σ H R I h => ?_⟩
  refine thn (hl.run pins s σ H _ I h) fun v s1 ⟨x, H1, I1, r1, q1⟩ => ?_
  obtain ⟨a, e, q⟩ := q1
  subst e
  cases r1
  rcases q with ⟨⟨xs, hq⟩, q⟩ | ⟨⟨xs, hq⟩, q⟩
  · obtain ⟨its, rv, p, hz⟩ := I1.list hq
    refine wpAny_pyIter_list p.isList ?_
    refine ⟨s1.heap.objs.size, [s1.heap.objs.size], _, _, H1, rfl, I1.kept (t' := s1.toks) fun b o e => Heap.get?_push_of_some _ e, turn_list a _, ⟨_, Heap.get?_push_size _ rfl, rfl, rfl⟩, fun b hb => ?_, q⟩
    have e : b = s1.heap.objs.size := by simpa using hb
    subst e
    exact I1.fpOk (Nat.le_refl _) (I1.hok.fresh (Nat.le_refl _))
  · obtain ⟨its, rv, p, hz⟩ := I1.tuple hq
    refine wpAny_pyIter_tuple (show s1.heap.IsTuple a its.toArray from p) ?_
    refine ⟨s1.heap.objs.size, [s1.heap.objs.size], _, _, H1, rfl, I1.kept (t' := s1.toks) fun b o e => Heap.get?_push_of_some _ e, turn_tuple a _, ⟨_, Heap.get?_push_size _ rfl, rfl, rfl⟩, fun b hb => ?_, q⟩
    have e : b = s1.heap.objs.size := by simpa using hb
    subst e
    exact I1.fpOk (Nat.le_refl _) (I1.hok.fresh (Nat.le_refl _))
theorem mi_seq (h : PE X a (tM X.K C va)) : PI X tg a (tI X.K C (va >>= fun d => M.lift (asS d))) := ⟨fun pins s σ H R I q => (pi_seq h).run pins s σ H R I (by
  obtain ⟨B, F, ρ, S, q⟩ := q
  refine tM.of S q.bind fun d ρ1 h1 v F1 H1 s1 S1 r1 => ?_
  cases d <;> try exact (RX.bad_elim h1 rfl).elim
  · obtain ⟨p, xs, rfl, fp, zx, r⟩ := r1
    exact ⟨p, rfl, .inl ⟨⟨xs, .inl (rd_same S1.fr fp)⟩, h1 _ F1 H1 s1 S1 (walks_list' fp r)⟩⟩
  · obtain ⟨p, xs, rfl, fp, zx, r⟩ := r1
    exact ⟨p, rfl, .inr ⟨⟨xs, .of (S1.fr _ _ fp)⟩, h1 _ F1 H1 s1 S1 (walks_tup fp r)⟩⟩)⟩
theorem walks_rng {K : PySem.W.Frag} {F : Hp} (lo hi : Int) : Walks K (Itr lo (hi - lo).toNat) F (rgD lo hi) := fun i H s => by
  have hl : (rgD lo hi).length = (hi - lo).toNat := by unfold rgD; rw [List.length_map, List.length_range]
  refine ⟨fun d e => ?_, fun e => by rw [hl] at e; exact e⟩
  have hlt := (List.getElem?_eq_some_iff.mp e).1
  rw [hl] at hlt
  refine ⟨hlt, fun x H' y => .inl ⟨y.1, ?_⟩⟩
  have e2 : d = .int (lo + (i : Nat)) := by
    unfold rgD at e
    rw [List.getElem?_map, List.getElem?_range hlt] at e
    exact (Option.some.inj e).symm
  subst e2
  exact y.2
def RgB (a b : Int) : Prop := -(2 ^ 62) ≤ a ∧ a < 2 ^ 62 ∧ -(2 ^ 62) ≤ b ∧ b < 2 ^ 62
instance (a b : Int) : Decidable (RgB a b) := by unfold RgB; infer_instance
def gRg (p : Int × Int) : Res (List D) := if RgB p.1 p.2 then .ok (rgD p.1 p.2) else .bad
theorem mi_rg1 (hm : X.mg "range" = none) (ha : PE X a (tL X.K C ma)) (hg : Gl X "range" := by rfl) (na : starEach [a] X.env = (false, eval a X.env) :: starEach [] X.env := by rfl) : PI X tg (.Call (.Name "range" p) [a] [] pos) (tI X.K C (eRg1 ma >>= fun p => M.lift (gRg p))) := ⟨fun pins s σ H R I q => (pi_range1 hg hm (pa_cons ha pa_nil na) (by rw [na]; rfl)).run pins s σ H R I (by
  obtain ⟨B, F, ρ, S, q⟩ := q
  have q1 := q.bind
  refine tL.of S q1.bind fun la ρ1 h1 v F1 H1 s1 S1 r1 => ?_
  obtain ⟨d, rd, h3⟩ := late_step S1 r1 h1
  obtain ⟨i, rfl, h4⟩ := asI_step h3
  have h5 : RX C B _ (M.lift (gRg (0, i)) ρ1) := h4
  by_cases z : RgB 0 i
  · refine ⟨i, by rw [rpv_int rd], z.2.2.1, z.2.2.2, ?_⟩
    unfold gRg at h5
    rw [if_pos z] at h5
    have w := walks_rng (K := X.K) (F := F1) 0 i
    rw [Int.sub_zero] at w
    exact h5 _ F1 H1 s1 S1 w
  · exact (RX.bad_elim h5 (by unfold gRg; rw [if_neg z])).elim)⟩
theorem mi_rg2 (hm : X.mg "range" = none) (ha : PE X a (tL X.K C ma)) (hb : PE X b (tL X.K C mb)) (hg : Gl X "range" := by rfl) (na : starEach [a, b] X.env = (false, eval a X.env) :: starEach [b] X.env := by rfl)
    (nb : starEach [b] X.env = (false, eval b X.env) :: starEach [] X.env := by rfl) : PI X tg (.Call (.Name "range" p) [a, b] [] pos) (tI X.K C (eRg2 ma mb >>= fun p => M.lift (gRg p))) := ⟨fun pins s σ H R I q => (pi_range2 hg hm (pa_cons ha (pa_cons hb pa_nil nb) na) (by rw [na, nb]; rfl) (by rw [nb]; rfl)).run pins s σ H R I (by
  obtain ⟨B, F, ρ, S, q⟩ := q
  have q1 := q.bind
  refine tL.of S q1.bind fun la ρ1 h1 v F1 H1 s1 S1 r1 => ?_
  refine tL.of S1 h1.bind fun lb ρ2 h2 u F2 H2 s2 S2 r2 => ?_
  obtain ⟨d, rd, h3⟩ := late_step S2 (r1.mono s2) h2
  obtain ⟨e, re, h4⟩ := late_step S2 r2 h3
  obtain ⟨i, rfl, h5⟩ := asI_step h4
  obtain ⟨j, rfl, h6⟩ := asI_step h5
  have h7 : RX C B _ (M.lift (gRg (i, j)) ρ2) := h6
  by_cases z : RgB i j
  · refine ⟨i, j, by rw [rpv_int rd, rpv_int re], z, ?_⟩
    unfold gRg at h7
    rw [if_pos z] at h7
    exact h7 _ F2 H2 (s1.trans s2) S2 (walks_rng i j)
  · exact (RX.bad_elim h7 (by unfold gRg; rw [if_neg z])).elim)⟩

/-! ### targets -/
/-- the slots but ts are as they were -/
def Chg (ts : List Nat) (σ σ' : L2.St) : Prop := σ'.length = σ.length ∧ ∀ j, j ∉ ts → σ'[j]? = σ[j]?
def tG (K : PySem.W.Frag) (C : SC) (ts : List Nat) (bd : D → M Unit) : TG := fun v σ H Q => ∃ B F ρ d, SR K C B F σ H ρ ∧ Rp K F d v ∧ RX C B (fun _ ρ' => ∀ σ', Chg ts σ σ' → SR K C B F σ' H ρ' → Q σ' H) (bd d ρ)
def setV (i : Nat) (d : D) : M Unit := fun ρ => if i < ρ.length then .ok ((), ρ.set i (.val d)) else .bad
theorem SR.setV {K : PySem.W.Frag} {C : SC} {B : Bs} {F : Hp} {σ : L2.St} {H : Hp} {ρ : En} (S : SR K C B F σ H ρ) {i : Nat} {d : D} {v : V} (ni : C.rf = none ∨ i ≠ 0) (r : Rp K F d v) : SR K C B F (σ.set i (some v)) H (ρ.set i (.val d)) := by
  have key : ∀ {j q}, OwnAt (σ.set i (some v)) (ρ.set i (.val d)) j q → OwnAt σ ρ j q := fun {j q} h => by
    obtain ⟨hj, s, e1, o, e2⟩ := own_set_val h
    rw [List.getElem?_set_ne (Ne.symm hj)] at e2
    exact ⟨s, e1, o, e2⟩
  refine ⟨S.fr, S.nf, S.kp, by simpa using S.len, fun j s w e1 e2 => ?_, fun j k q h1 h2 => S.ap j k q (key h1) (key h2), fun q hq => ?_⟩
  · by_cases hj : i = j
    · subst hj
      have hlt := (List.getElem?_eq_some_iff.mp e1).1
      rw [List.length_set] at hlt
      rw [List.getElem?_set_self hlt] at e1
      cases e1
      rw [List.getElem?_set_self (by have := S.len; omega)] at e2
      cases e2
      exact ⟨v, rfl, r⟩
    · rw [List.getElem?_set_ne hj] at e1 e2
      exact S.sl j s w e1 e2
  · obtain ⟨h1, ds', h2⟩ := S.rf q hq
    rcases ni with n | n
    · rw [n] at hq; cases hq
    · exact ⟨by rw [List.getElem?_set_ne n]; exact h1, ds', by rw [List.getElem?_set_ne n]; exact h2⟩
theorem chg_set {σ : L2.St} {i : Nat} {v : Option V} : Chg [i] σ (σ.set i v) := ⟨by simp, fun j hj => by rw [List.getElem?_set_ne]; intro e; subst e; exact hj (by simp)⟩
theorem chg_mono {ts ts' : List Nat} {σ σ' : L2.St} (h : Chg ts σ σ') (k : ∀ j ∈ ts, j ∈ ts') : Chg ts' σ σ' := ⟨h.1, fun j hj => h.2 j fun z => hj (k j z)⟩
theorem chg_trans {ts : List Nat} {σ σ' σ'' : L2.St} (h : Chg ts σ σ') (h' : Chg ts σ' σ'') : Chg ts σ σ'' := ⟨h'.1.trans h.1, fun j hj => (h'.2 j hj).trans (h.2 j hj)⟩
theorem mg_name (i : Nat) (ni : C.rf = none ∨ i ≠ 0) (hN : X.N.Nodup) (hi : X.N[i]? = some x := by rfl) (hx : Loc X.env.scope x := by first | exact .inl rfl | exact .inr rfl) (hf : X.fn x = true ∨ X.env.scope.names.lookup x = some .local := by first | exact .inl rfl | exact .inr rfl) : PG X (.Name x pos) (tG X.K C [i] (setV i)) := ⟨fun pins s σ H v u Q I r h => (pg_name hN hi hx hf).run pins s σ H v u Q I r (by
  obtain ⟨B, F, ρ, d, S, rd, q⟩ := h
  unfold setV at q
  by_cases z : i < ρ.length
  · rw [if_pos z] at q
    exact q _ chg_set (S.setV ni rd)
  · rw [if_neg z] at q
    exact q.elim)⟩
/-- several names in a row -/
def setVs : List Nat → List D → M Unit
  | [], [] => pure ()
  | i :: is, d :: ds => setV i d >>= fun _ => setVs is ds
  | _, _ => fun _ => .bad
def tGs (K : PySem.W.Frag) (C : SC) (ts : List Nat) : TGs := fun vs σ H Q => ∃ B F ρ ds, SR K C B F σ H ρ ∧ RpAll K F ds vs ∧ RX C B (fun _ ρ' => ∀ σ', Chg ts σ σ' → SR K C B F σ' H ρ' → Q σ' H) (setVs ts ds ρ)
theorem mgs_nil : PGs X [] (tGs X.K C []) := ⟨fun pins s σ H vs us Q I r h => pgs_nil.run pins s σ H vs us Q I r (by
  obtain ⟨B, F, ρ, ds, S, rd, q⟩ := h
  cases ds with
  | nil => exact ⟨rd, q σ ⟨rfl, fun _ _ => rfl⟩ S⟩
  | cons d ds => exact (show False from q).elim)⟩
theorem mgs_cons {es : List Expr} {i : Nat} {is : List Nat} (h1 : PG X a (tG X.K C [i] (setV i))) (h2 : PGs X es (tGs X.K C is)) (hs : (assignEach (a :: es) X.env).map (·.2) = assign a X.env :: (assignEach es X.env).map (·.2) := by rfl) : PGs X (a :: es) (tGs X.K C (i :: is)) := ⟨fun pins s σ H vs us Q I r h => (pgs_cons h1 h2 hs).run pins s σ H vs us Q I r (by
  obtain ⟨B, F, ρ, ds, S, rd, q⟩ := h
  cases ds with
  | nil => exact (show False from q).elim
  | cons d ds =>
    obtain ⟨v, vr, rfl, r1, r2⟩ := rd
    refine ⟨v, vr, rfl, B, F, ρ, d, S, r1, ?_⟩
    have q' : RX C B _ ((setV i d >>= fun _ => setVs is ds) ρ) := q
    refine q'.bind.imp fun _ ρ1 h1 σ1 c1 S1 => ?_
    exact ⟨B, F, ρ1, ds, S1, r2, h1.imp fun _ ρ2 h2 σ2 c2 S2 => h2 σ2 (chg_trans (chg_mono c1 (by simp)) (chg_mono c2 (fun j hj => List.mem_cons_of_mem _ hj))) S2⟩)⟩
def bdT (is : List Nat) : D → M Unit
  | .tuple ds => setVs is ds
  | _ => fun _ => .bad
theorem setVs_len {α : Type} {Φ : Unit → En → Prop} : ∀ {is : List Nat} {ds : List D} {ρ : En}, RX C B Φ (setVs is ds ρ) → ds.length = is.length
  | [], [], _, _ => rfl
  | i :: is, [], _, q => (show False from q).elim
  | [], d :: ds, _, q => (show False from q).elim
  | i :: is, d :: ds, ρ, q => by
    have q' : RX C B Φ ((setV i d >>= fun _ => setVs is ds) ρ) := q
    have q2 := q'.bind
    unfold setV at q2
    by_cases z : i < ρ.length
    · rw [if_pos z] at q2
      have := setVs_len (α := α) (show RX C B Φ (setVs is ds (ρ.set i (.val d))) from q2)
      simp [this]
    · rw [if_neg z] at q2
      exact q2.elim
theorem mg_tup {es : List Expr} {k : Nat} {is : List Nat} (hc : X.calm = true) (h : PGs X es (tGs X.K C is)) (hn : (assignEach es X.env).length = is.length := by rfl) (hst : (assignEach es X.env).findIdx? (·.1) = none := by rfl) : PG X (.Tuple es ctx pos) (tG X.K C is (bdT is)) := ⟨fun pins s σ H v u Q I r w => (pg_tup hc h hn hst).run pins s σ H v u Q I r (by
  obtain ⟨B, F, ρ, d, S, rd, q⟩ := w
  cases d <;> try exact (show False from q).elim
  rename_i ds
  obtain ⟨a, xs, rfl, fa, z, r1⟩ := rd
  exact ⟨a, xs, rfl, .of (S.fr _ _ fa), by rw [← r1.len]; exact setVs_len (α := Unit) q, B, F, ρ, ds, S, r1, q⟩)⟩
end
end VS

set_option Elab.async false
set_option linter.all false
set_option maxRecDepth 100000
set_option maxHeartbeats 4000000
namespace VS
open PySem PySem.Spec PyProof.Rows L2
/-! ### comprehensions -/
def SC.nox (C : SC) : SC := { C with Ex := fun _ _ => False }
def wipeE (ρ : En) : List Nat → En
  | [] => ρ
  | v :: vs => (wipeE ρ vs).set v .emp
def restE (ρ ρ2 : En) : List Nat → En
  | [] => ρ2
  | v :: vs => (restE ρ ρ2 vs).set v (ρ.getD v .emp)
def noOwn (ρ : En) (vs : List Nat) : Bool := vs.all fun v => !(ρ.getD v .emp).isOwn
def nx {α : Type} (m : M α) : M α := fun ρ => match m ρ with
  | .exc _ => .bad
  | r => r
def clr (vs : List Nat) : M Unit := fun ρ => .ok ((), wipeE ρ vs)
def lcGo (vs : List Nat) (bd : D → M Unit) (mt : M Bool) (me : M D) : List D → M (List D)
  | [] => pure []
  | d :: ds => bd d >>= fun _ => nx mt >>= fun b => if b = true then nx me >>= fun y => clr vs >>= fun _ => lcGo vs bd mt me ds >>= fun ys => pure (y :: ys) else clr vs >>= fun _ => lcGo vs bd mt me ds
def eLc (vs : List Nat) (mi : M (List D)) (bd : D → M Unit) (mt : M Bool) (me : M D) : M (List D) := mi >>= fun ds ρ1 =>
  if noOwn ρ1 vs = true ∧ ds.length ≤ sizeLine then (lcGo vs bd mt me ds (wipeE ρ1 vs)).bind fun p => .ok (p.1, restE ρ1 p.2 vs) else .bad
theorem nx_read {α β : Type} {C C' : SC} {B B' : Bs} {Φ : β → En → Prop} {Ψ : α → En → Prop} {m : M α} {f : α → M β} {ρ : En} (h : RX C B Φ ((nx m >>= f) ρ)) (k : ∀ a ρ1, RX C B Φ (f a ρ1) → Ψ a ρ1) : RX C' B' Ψ (m ρ) := by
  have h2 := h.bind
  unfold nx at h2
  cases e : m ρ with
  | ok p => rw [e] at h2; exact k _ _ h2
  | exc c => rw [e] at h2; exact h2.elim
  | bad => rw [e] at h2; exact h2.elim
theorem SR.nox {K : PySem.W.Frag} {C : SC} {B : Bs} {F H : Hp} {σ : L2.St} {ρ : En} (S : SR K C B F σ H ρ) : SR K C.nox B F σ H ρ := ⟨S.fr, S.nf, S.kp, S.len, S.sl, S.ap, S.rf⟩
theorem SR.unnox {K : PySem.W.Frag} {C : SC} {B : Bs} {F H : Hp} {σ : L2.St} {ρ : En} (S : SR K C.nox B F σ H ρ) : SR K C B F σ H ρ := ⟨S.fr, S.nf, S.kp, S.len, S.sl, S.ap, S.rf⟩
section
variable {K : PySem.W.Frag} {C : SC} {B : Bs} {F F' H H' : Hp} {σ σ' : L2.St} {ρ ρ2 : En}
theorem wipeE_len (vs : List Nat) : (wipeE ρ vs).length = ρ.length := by
  induction vs with
  | nil => rfl
  | cons v vs ih => unfold wipeE; rw [List.length_set, ih]
theorem SR.emp (S : SR K C B F σ H ρ) {i : Nat} {v : Option V} (ni : C.rf = none ∨ i ≠ 0) : SR K C B F (σ.set i v) H (ρ.set i .emp) := by
  have key : ∀ {j q}, OwnAt (σ.set i v) (ρ.set i .emp) j q → OwnAt σ ρ j q := fun {j q} h => by
    obtain ⟨s, e1, o, e2⟩ := h
    by_cases hj : i = j
    · subst hj
      have hlt := (List.getElem?_eq_some_iff.mp e1).1
      rw [List.length_set] at hlt
      rw [List.getElem?_set_self hlt] at e1; cases e1; cases o
    · rw [List.getElem?_set_ne hj] at e1 e2
      exact ⟨s, e1, o, e2⟩
  refine ⟨S.fr, S.nf, S.kp, by simpa using S.len, fun j s w e1 e2 => ?_, fun j k q h1 h2 => S.ap j k q (key h1) (key h2), fun q hq => ?_⟩
  · by_cases hj : i = j
    · subst hj
      have hlt := (List.getElem?_eq_some_iff.mp e1).1
      rw [List.length_set] at hlt
      rw [List.getElem?_set_self hlt] at e1
      cases e1
      trivial
    · rw [List.getElem?_set_ne hj] at e1 e2
      exact S.sl j s w e1 e2
  · obtain ⟨h1, ds', h2⟩ := S.rf q hq
    rcases ni with n | n
    · rw [n] at hq; cases hq
    · exact ⟨by rw [List.getElem?_set_ne n]; exact h1, ds', by rw [List.getElem?_set_ne n]; exact h2⟩
theorem SR.wipe (S : SR K C B F σ H ρ) : ∀ {vs : List Nat}, (∀ v ∈ vs, C.rf = none ∨ v ≠ 0) → SR K C B F (wipe σ vs) H (wipeE ρ vs)
  | [], _ => S
  | v :: vs, h => (SR.wipe S fun u hu => h u (List.mem_cons_of_mem _ hu)).emp (h v List.mem_cons_self)
theorem wipe_get {σ : L2.St} {j : Nat} : ∀ {vs : List Nat}, j ∉ vs → (wipe σ vs)[j]? = σ[j]?
  | [], _ => rfl
  | v :: vs, h => by
    unfold wipe
    rw [List.getElem?_set_ne (by intro e; subst e; exact h List.mem_cons_self)]
    exact wipe_get fun z => h (List.mem_cons_of_mem _ z)
theorem wipe_in {σ : L2.St} {j : Nat} : ∀ {vs : List Nat}, j ∈ vs → j < σ.length → (wipe σ vs)[j]? = some none
  | v :: vs, h, l => by
    unfold wipe
    by_cases e : v = j
    · subst e
      rw [List.getElem?_set_self (by rw [wipe_length]; exact l)]
    · rw [List.getElem?_set_ne e]
      exact wipe_in ((List.mem_cons.mp h).resolve_left fun z => e z.symm) l
theorem wipe_chg {σ σ' : L2.St} {vs : List Nat} (h : Chg vs (wipe σ vs) σ') : wipe σ' vs = wipe σ vs := by
  have hl : σ'.length = σ.length := h.1.trans (wipe_length σ vs)
  apply List.ext_getElem?
  intro j
  by_cases hj : j ∈ vs
  · by_cases l : j < σ.length
    · rw [wipe_in hj (by omega), wipe_in hj l]
    · rw [List.getElem?_eq_none (by rw [wipe_length]; omega), List.getElem?_eq_none (by rw [wipe_length]; omega)]
  · rw [wipe_get hj, h.2 j hj]
theorem restE_len (vs : List Nat) : (restE ρ ρ2 vs).length = ρ2.length := by
  induction vs with
  | nil => rfl
  | cons v vs ih => unfold restE; rw [List.length_set, ih]
theorem restE_get {j : Nat} : ∀ {vs : List Nat}, j ∉ vs → (restE ρ ρ2 vs)[j]? = ρ2[j]?
  | [], _ => rfl
  | v :: vs, h => by
    unfold restE
    rw [List.getElem?_set_ne (by intro e; subst e; exact h List.mem_cons_self)]
    exact restE_get fun z => h (List.mem_cons_of_mem _ z)
theorem restE_in {j : Nat} : ∀ {vs : List Nat}, j ∈ vs → j < ρ2.length → (restE ρ ρ2 vs)[j]? = some (ρ.getD j .emp)
  | v :: vs, h, l => by
    unfold restE
    by_cases e : v = j
    · subst e
      rw [List.getElem?_set_self (by rw [restE_len]; exact l)]
    · rw [List.getElem?_set_ne e]
      exact restE_in ((List.mem_cons.mp h).resolve_left fun z => e z.symm) l
open Classical in
/-- all that is there now, but what is one's own, is kept from now on -/
theorem SR.rebase (S : SR K C B F σ H ρ) : ∃ B', SR K C B' F σ H ρ ∧ (∀ F3 σ3 H3 ρ3, SR K C B' F3 σ3 H3 ρ3 → SR K C B F3 σ3 H3 ρ3) ∧
    (∀ p u, H p = some u → F p = none → (∀ i, ¬ OwnAt σ ρ i p) → ∀ F3 σ3 H3 ρ3, SR K C B' F3 σ3 H3 ρ3 → H3 p = some u ∧ F3 p = none ∧ ∀ i, ¬ OwnAt σ3 ρ3 i p) := by
  let Bb : Hp := fun a => if ∃ j, OwnAt σ ρ j a then none else H a
  have own : ∀ {i p}, OwnAt σ ρ i p → Bb p = none := fun {i p} h => if_pos ⟨i, h⟩
  have nown : ∀ {p}, (∀ i, ¬ OwnAt σ ρ i p) → Bb p = H p := fun {p} h => if_neg fun ⟨i, q⟩ => h i q
  have at_ : ∀ {i s v}, ρ[i]? = some s → σ[i]? = some v → SlOk K C B F H s v → SlOk K C ⟨Bb, F⟩ F H s v := fun {i s v} e1 e2 q => by
    cases s with
    | emp => trivial
    | val d => exact q
    | scr _ => exact q
    | own ds =>
      obtain ⟨p, xs, rfl, h1, r, ⟨f, _⟩, z⟩ := q
      exact ⟨p, xs, rfl, h1, r, ⟨f, .inl (own ⟨_, e1, rfl, e2⟩)⟩, z⟩
    | dT ds =>
      obtain ⟨p, xs, rfl, h1, r, ⟨f, _⟩⟩ := q
      exact ⟨p, xs, rfl, h1, r, ⟨f, .inl (own ⟨_, e1, rfl, e2⟩)⟩⟩
    | dK ds =>
      obtain ⟨p, xs, rfl, h1, r, ⟨f, _⟩⟩ := q
      exact ⟨p, xs, rfl, h1, r, ⟨f, .inl (own ⟨_, e1, rfl, e2⟩)⟩⟩
  have ownB : ∀ {i p}, OwnAt σ ρ i p → B.b p = none ∨ C.rf = some p := fun {i p} ⟨s, e1, o, e2⟩ => by
    have q := S.sl i s _ e1 e2
    cases s with
    | emp => cases o
    | val d => cases o
    | scr _ => cases o
    | own ds => obtain ⟨p, xs, e, h1, r, ⟨f, b⟩, z⟩ := q; cases e; exact b
    | dT ds => obtain ⟨p, xs, e, h1, r, ⟨f, b⟩⟩ := q; cases e; exact b
    | dK ds => obtain ⟨p, xs, e, h1, r, ⟨f, b⟩⟩ := q; cases e; exact b
  have none_ : ∀ {p}, Bb p = none → B.b p = none ∨ C.rf = some p := fun {p} h => by
    by_cases o : ∃ j, OwnAt σ ρ j p
    · obtain ⟨j, o⟩ := o
      exact ownB o
    · rw [show Bb p = H p from if_neg o] at h
      exact .inl (S.fresh h).2
  have some_ : ∀ {p u}, B.b p = some u → C.rf ≠ some p → Bb p = some u := fun {p u} h r => by
    rw [nown]
    · exact S.kp p u h r
    · intro i o
      rcases ownB o with q | q
      · rw [h] at q; cases q
      · exact r q
  have rfn : ∀ {F3 σ3 H3 ρ3 p}, SR K C ⟨Bb, F⟩ F3 σ3 H3 ρ3 → C.rf = some p → F3 p = none := fun {F3 σ3 H3 ρ3 p} S3 h => by
    obtain ⟨e1, ds, e2⟩ := S3.rf p h
    obtain ⟨q, xs, e3, e4, _, ⟨e5, _⟩, _⟩ := S3.sl 0 _ _ e2 e1
    cases e3
    exact e5
  refine ⟨⟨Bb, F⟩, ⟨S.fr, fun a u _ f => f, fun a o e r => ?_, S.len, fun i s v e1 e2 => at_ e1 e2 (S.sl i s v e1 e2), S.ap, S.rf⟩, fun F3 σ3 H3 ρ3 S3 => ?_, fun p u hp fp no F3 σ3 H3 ρ3 S3 => ?_⟩
  · have e' : (if ∃ j, OwnAt σ ρ j a then none else H a) = some o := e
    by_cases h : ∃ j, OwnAt σ ρ j a
    · rw [if_pos h] at e'; cases e'
    · rw [if_neg h] at e'; exact e'
  · refine ⟨S3.fr, fun a u e f => ?_, fun a o e r => S3.kp a o (some_ e r) r, S3.len, fun i s v e1 e2 => ?_, S3.ap, S3.rf⟩
    · by_cases r : C.rf = some a
      · exact rfn S3 r
      · exact S3.nf a u (some_ e r) (S.nf a u e f)
    · have q := S3.sl i s v e1 e2
      cases s with
      | emp => trivial
      | val d => exact q
      | scr _ => exact q
      | own ds =>
        obtain ⟨p, xs, rfl, h1, r, ⟨f, b⟩, z⟩ := q
        exact ⟨p, xs, rfl, h1, r, ⟨f, b.elim none_ .inr⟩, z⟩
      | dT ds =>
        obtain ⟨p, xs, rfl, h1, r, ⟨f, b⟩⟩ := q
        exact ⟨p, xs, rfl, h1, r, ⟨f, b.elim none_ .inr⟩⟩
      | dK ds =>
        obtain ⟨p, xs, rfl, h1, r, ⟨f, b⟩⟩ := q
        exact ⟨p, xs, rfl, h1, r, ⟨f, b.elim none_ .inr⟩⟩
  · have hb : Bb p = some u := (nown no).trans hp
    have hr : C.rf ≠ some p := fun r => by
      obtain ⟨e1, ds, e2⟩ := S.rf p r
      exact no 0 ⟨_, e2, rfl, e1⟩
    refine ⟨S3.kp p u hb hr, S3.nf p u hb fp, fun i o => ?_⟩
    obtain ⟨s, e1, os, e2⟩ := o
    have q := S3.sl i s _ e1 e2
    have b : Bb p = none ∨ C.rf = some p := by
      cases s with
      | emp => cases os
      | val d => cases os
      | scr _ => cases os
      | own ds => obtain ⟨p, xs, e, h1, r, ⟨f, b⟩, z⟩ := q; cases e; exact b
      | dT ds => obtain ⟨p, xs, e, h1, r, ⟨f, b⟩⟩ := q; cases e; exact b
      | dK ds => obtain ⟨p, xs, e, h1, r, ⟨f, b⟩⟩ := q; cases e; exact b
    rcases b with b | b
    · rw [hb] at b; cases b
    · exact hr b
/-- an object that nobody holds is changed -/
theorem SR.updFree (S : SR K C B F σ H ρ) {p : Addr} {o : HO} (fp : F p = none) (bp : B.b p = none) (no : ∀ i, ¬ OwnAt σ ρ i p) : SR K C B F σ (upd H p o) ρ :=
  ⟨fun a u e => by rw [upd_ne (ne_of_none e fp)]; exact S.fr _ _ e, S.nf, fun a u e r => by rw [upd_ne (ne_of_none e bp)]; exact S.kp a u e r, S.len, fun i s v e1 e2 => (S.sl i s v e1 e2).mono (Same.refl _) (fun q u e os h => by
    rw [upd_ne]
    · exact h
    · rintro rfl
      exact no i ⟨s, e1, os, by rw [e2, e]⟩) (fun _ _ _ n => n), S.ap, S.rf⟩
/-- back from the block: the block's own names have their elder values -/
theorem SR.rest {vs : List Nat} (S : SR K C B F σ H ρ) (S2 : SR K C B F' (L2.wipe σ vs) H' ρ2) (s : Same F F') (n : noOwn ρ vs = true) (ni : ∀ v ∈ vs, C.rf = none ∨ v ≠ 0) : SR K C B F' σ H' (restE ρ ρ2 vs) := by
  have l2 : ρ2.length = ρ.length := by rw [← S2.len, wipe_length, S.len]
  have no : ∀ v ∈ vs, (ρ.getD v .emp).isOwn = false := fun v hv => by
    have := List.all_eq_true.mp n v hv
    simpa using this
  have key : ∀ {j q}, OwnAt σ (restE ρ ρ2 vs) j q → OwnAt (L2.wipe σ vs) ρ2 j q := fun {j q} h => by
    obtain ⟨s, e1, o, e2⟩ := h
    have hlt := (List.getElem?_eq_some_iff.mp e1).1
    rw [restE_len] at hlt
    by_cases hj : j ∈ vs
    · rw [restE_in hj hlt] at e1
      cases e1
      rw [no j hj] at o; cases o
    · rw [restE_get hj] at e1
      exact ⟨s, e1, o, by rw [wipe_get hj]; exact e2⟩
  refine ⟨S2.fr, S2.nf, S2.kp, by rw [restE_len, l2]; exact S.len, fun j s' w e1 e2 => ?_, fun j k q h1 h2 => S2.ap j k q (key h1) (key h2), fun q hq => ?_⟩
  · have hlt := (List.getElem?_eq_some_iff.mp e1).1
    rw [restE_len] at hlt
    by_cases hj : j ∈ vs
    · rw [restE_in hj hlt] at e1
      have n1 := no j hj
      cases e3 : ρ[j]? with
      | none => rw [List.getElem?_eq_none_iff] at e3; omega
      | some t =>
        have e4 : ρ.getD j .emp = t := by rw [List.getD_eq_getElem?_getD, e3]; rfl
        rw [e4] at e1 n1
        cases e1
        have q := S.sl j _ _ e3 e2
        cases s' with
        | emp => trivial
        | val d =>
          obtain ⟨x, ex, r⟩ := q
          exact ⟨x, ex, r.mono s⟩
        | scr ns =>
          obtain ⟨x, ex, r⟩ := q
          exact ⟨x, ex, s.seq r⟩
        | own _ => cases n1
        | dT _ => cases n1
        | dK _ => cases n1
    · rw [restE_get hj] at e1
      exact S2.sl j s' w e1 (by rw [wipe_get hj]; exact e2)
  · obtain ⟨h1, ds', h2⟩ := S2.rf q hq
    have h0 : 0 ∉ vs := fun z => by
      rcases ni 0 z with e | e
      · rw [e] at hq; cases hq
      · exact e rfl
    rw [wipe_get h0] at h1
    exact ⟨h1, ds', by rw [restE_get h0]; exact h2⟩
end
section
variable {X : Cx} {C : SC} {B : Bs} {elt tg iter : Expr} {ifs : List Expr} {scope : Scope} {own : List (Str × Nat)} {pos spos : Pos} {mi : M (List D)} {bd : D → M Unit} {mt : M Bool} {me : M D} {is : List Nat}
def mYes : M Bool := pure true
theorem mts_nil : PTs X [] (tB X.K C mYes) := ⟨fun pins s σ H Q I h => pts_nil.run pins s σ H Q I (by
  obtain ⟨B, F, ρ, S, q⟩ := h
  exact q F H (Same.refl _) S)⟩
theorem mts_one {c : Expr} (h : PT X c (tB X.K C mt)) : PTs X [c] (tB X.K C mt) := pts_one h
theorem wipeE_get {ρ : En} {j : Nat} : ∀ {vs : List Nat}, j ∉ vs → (wipeE ρ vs)[j]? = ρ[j]?
  | [], _ => rfl
  | v :: vs, h => by
    unfold wipeE
    rw [List.getElem?_set_ne (by intro e; subst e; exact h List.mem_cons_self)]
    exact wipeE_get fun z => h (List.mem_cons_of_mem _ z)
theorem eLc_read (hbd : ∀ d ρ c, bd d ρ ≠ .exc c) {vs : List Nat} {σ : L2.St} {H : Hp} {Q : VK} (hts : ∀ i ∈ is, i ∈ vs) (ni : ∀ v ∈ vs, C.rf = none ∨ v ≠ 0) (q : tO X.K C (eLc vs mi bd mt me) σ H Q) : tLc (tI X.K C mi) (tG X.K C.nox is bd) (tB X.K C.nox mt) (tM X.K C.nox me) vs σ H Q := by
  obtain ⟨B, F, ρ, S, q⟩ := q
  refine ⟨B, F, ρ, S, q.bind.imp fun ds ρ1 h1 J F1 H1 s1 S1 w => ?_⟩
  by_cases no : noOwn ρ1 vs = true ∧ ds.length ≤ sizeLine
  case neg =>
    have h1' : RX C B (PO X.K C B σ F Q) (if noOwn ρ1 vs = true ∧ ds.length ≤ sizeLine then (lcGo vs bd mt me ds (wipeE ρ1 vs)).bind fun p => .ok (p.1, restE ρ1 p.2 vs) else .bad) := h1
    rw [if_neg no] at h1'
    exact h1'.elim
  have h2 : RX C B (PO X.K C B σ F Q) (((lcGo vs bd mt me ds (wipeE ρ1 vs)).bind fun p => .ok (p.1, restE ρ1 p.2 vs))) := by
    have h1' : RX C B (PO X.K C B σ F Q) (if noOwn ρ1 vs = true ∧ ds.length ≤ sizeLine then (lcGo vs bd mt me ds (wipeE ρ1 vs)).bind fun p => .ok (p.1, restE ρ1 p.2 vs) else .bad) := h1
    rw [if_pos no] at h1'
    exact h1'
  obtain ⟨no, few⟩ := no
  have h3 : RX C B (fun ys ρ2 => PO X.K C B σ F Q ys (restE ρ1 ρ2 vs)) (lcGo vs bd mt me ds (wipeE ρ1 vs)) := by
    cases e : lcGo vs bd mt me ds (wipeE ρ1 vs) with
    | ok p => rw [e] at h2; exact h2
    | exc c => rw [e] at h2; exact h2
    | bad => rw [e] at h2; exact h2
  intro Dn nD
  have fD := S1.fresh nD
  let Inv' : Nat → Hp → Prop := fun i H' => ∃ F' ρ' acc xs, Same F1 F' ∧ SR X.K C B F' (wipe σ vs) H' ρ' ∧ F' Dn = none ∧ (∀ j, ¬ OwnAt (wipe σ vs) ρ' j Dn) ∧ H' Dn = some (.lst xs) ∧ xs.length ≤ i ∧ RpAll X.K F' acc xs ∧
      RX C B (fun ys ρ2 => PO X.K C B σ F Q (acc ++ ys) (restE ρ1 ρ2 vs)) (lcGo vs bd mt me (ds.drop i) ρ')
  refine ⟨fun i m H' => m = ds.length - i ∧ i ≤ ds.length ∧ Inv' i H', ⟨ds.length, by simp, Nat.zero_le _, F1, wipeE ρ1 vs, [], [], Same.refl _, (S1.alloc0 nD).wipe ni, fD.1, fun j o => ?_, upd_same, Nat.zero_le _, rfl, h3⟩, ?_⟩
  · obtain ⟨u, hu⟩ := own_there (S1.wipe ni) o
    rw [nD] at hu; cases hu
  rintro i m H' ⟨rfl, hi, F', ρ', acc, xs, sf, S', fd, nown, hD, hx, ra, q'⟩
  have wi := w i H' (fun b o e => S'.fr _ _ (sf _ _ e))
  by_cases hlt : i < ds.length
  · obtain ⟨d, ed⟩ : ∃ d, ds[i]? = some d := ⟨ds[i], by simp [hlt]⟩
    obtain ⟨go, yl⟩ := wi.1 d ed
    refine .inr ⟨go, fun H'' => Inv' (i + 1) H'', fun H'' h => ⟨ds.length - (i + 1), by omega, rfl, hlt, h⟩, fun x H2 y => ?_⟩
    have drop : ds.drop i = d :: ds.drop (i + 1) := by
      rw [List.drop_eq_getElem_cons hlt]
      congr 1
      have := List.getElem?_eq_getElem hlt
      rw [ed] at this
      exact (Option.some.inj this).symm
    rw [drop] at q'
    obtain ⟨B', Sb, back, keep⟩ := S'.rebase
    obtain ⟨F2, s2, S2, r2⟩ := Yields.sr sf Sb (yl x H2 y)
    have kp := keep Dn _ hD fd nown
    have q1 : RX C B (fun ys ρ2 => PO X.K C B σ F Q (acc ++ ys) (restE ρ1 ρ2 vs)) ((bd d >>= fun _ => nx mt >>= fun b => if b = true then nx me >>= fun y => clr vs >>= fun _ => lcGo vs bd mt me (ds.drop (i + 1)) >>= fun ys => pure (y :: ys) else clr vs >>= fun _ => lcGo vs bd mt me (ds.drop (i + 1))) ρ') := q'
    have q2 := q1.bind
    refine ⟨B', F2, ρ', d, S2.nox, r2, ?_⟩
    cases eb : bd d ρ' with
    | bad => rw [eb] at q2; exact q2.elim
    | exc c =>
      exact absurd eb (hbd d ρ' c)
    | ok pr =>
      obtain ⟨u, ρ3⟩ := pr
      rw [eb] at q2
      intro σ3 chg S3
      have wq : wipe σ3 vs = wipe σ vs := wipe_chg (chg_mono chg hts)
      refine ⟨wq, B', F2, ρ3, S3, ?_⟩
      refine nx_read q2 fun b ρ4 q3 F4 H4 s4 S4 => ?_
      -- the turn's end, from a state behind it
      have fin : ∀ {F5 H5 ρ5 xs' acc'}, Same F2 F5 → SR X.K C B F5 σ3 H5 ρ5 → F5 Dn = none → (∀ j, ¬ OwnAt σ3 ρ5 j Dn) → H5 Dn = some (.lst xs') → xs'.length ≤ i + 1 → RpAll X.K F5 acc' xs' →
          RX C B (fun ys ρ2 => PO X.K C B σ F Q (acc' ++ ys) (restE ρ1 ρ2 vs)) (lcGo vs bd mt me (ds.drop (i + 1)) (wipeE ρ5 vs)) → Inv' (i + 1) H5 := fun {F5 H5 ρ5 xs' acc'} s5 S5 f5 n5 h5 l5 r5 q5 => by
        have S6 := S5.wipe ni
        rw [wq] at S6
        refine ⟨F5, wipeE ρ5 vs, acc', xs', sf.trans (s2.trans s5), S6, f5, fun j o => ?_, h5, l5, r5, q5⟩
        obtain ⟨s, e1, os, e2⟩ := o
        by_cases hj : j ∈ vs
        · have hl := (List.getElem?_eq_some_iff.mp e2).1
          rw [wipe_length] at hl
          rw [wipe_in hj hl] at e2; cases e2
        · rw [← wq, wipe_get hj] at e2
          rw [wipeE_get hj] at e1
          exact n5 j ⟨s, e1, os, e2⟩
      cases b with
      | false =>
        have q4 : RX C B _ ((clr vs >>= fun _ => lcGo vs bd mt me (ds.drop (i + 1))) ρ4) := q3
        have k4 := kp _ _ _ _ S4.unnox
        exact fin s4 (back _ _ _ _ S4.unnox) k4.2.1 k4.2.2 k4.1 (by omega) (ra.mono (s2.trans s4)) q4
      | true =>
        refine ⟨B', F4, ρ4, S4, ?_⟩
        have q4 : RX C B _ ((nx me >>= fun y => clr vs >>= fun _ => lcGo vs bd mt me (ds.drop (i + 1)) >>= fun ys => pure (y :: ys)) ρ4) := q3
        refine nx_read q4 fun yd ρ5 q5 v F5 H5 s5 S5 r5 => ?_
        have k5 := kp _ _ _ _ S5.unnox
        have S5b := back _ _ _ _ S5.unnox
        refine ⟨xs, k5.1, by omega, ?_⟩
        refine fin (s4.trans s5) (S5b.updFree k5.2.1 fD.2 k5.2.2) k5.2.1 k5.2.2 upd_same (by simp; omega) ((ra.mono (s2.trans (s4.trans s5))).append (.cons r5 .nil)) ?_
        have q6 : RX C B _ ((lcGo vs bd mt me (ds.drop (i + 1)) >>= fun ys => pure (yd :: ys)) (wipeE ρ5 vs)) := q5
        refine q6.bind.imp fun ys ρ6 q7 => ?_
        rw [List.append_assoc]
        exact q7
  · have e : i = ds.length := by omega
    subst e
    refine .inl ⟨wi.2 (Nat.le_refl _), ?_⟩
    rw [List.drop_length] at q'
    have q1 : PO X.K C B σ F Q (acc ++ []) (restE ρ1 ρ' vs) := q'
    rw [List.append_nil] at q1
    refine q1 Dn xs F' H' (s1.trans sf) (S1.rest S' sf no ni) fd fD.2 (fun j o => ?_) hD (by omega) ra
    obtain ⟨s, e1, os, e2⟩ := o
    have hlt' := (List.getElem?_eq_some_iff.mp e1).1
    rw [restE_len] at hlt'
    by_cases hj : j ∈ vs
    · rw [restE_in hj hlt'] at e1
      cases e1
      have := List.all_eq_true.mp no j hj
      rw [os] at this
      cases this
    · rw [restE_get hj] at e1
      exact nown j ⟨s, e1, os, by rw [wipe_get hj]; exact e2⟩
/-- [elt for target in iter if ..] -/
theorem m_lcO (hbd : ∀ d ρ c, bd d ρ ≠ .exc c) (hts : ∀ i ∈ is, i ∈ own.map (·.2)) (ni : ∀ v ∈ own.map (·.2), C.rf = none ∨ v ≠ 0) (hc : X.calm = true) (hN : X.N.Nodup) (hi : PI X tg iter (tI X.K C mi)) (ok : BlkOk X.N X.env.scope scope own)
    (hg : ∀ (s : Shared) (H : Hp) (L : Addr) (cl : List (Str × Addr)) (fp : List Addr), PG (X.blk s H scope (compEnvC scope cl L X.env) fp) tg (tG X.K C.nox is bd)) (ht : ∀ (s : Shared) (H : Hp) (L : Addr) (cl : List (Str × Addr)) (fp : List Addr), PTs (X.blk s H scope (compEnvC scope cl L X.env) fp) ifs (tB X.K C.nox mt))
    (he : ∀ (s : Shared) (H : Hp) (L : Addr) (cl : List (Str × Addr)) (fp : List Addr), PE (X.blk s H scope (compEnvC scope cl L X.env) fp) elt (tM X.K C.nox me)) (hs : ∀ x, foldedSetIterable iter X.env x = pure x := by intro _; rfl) :
    PE X (.ListComp elt [⟨tg, iter, ifs, 0⟩] scope pos) (tO X.K C (eLc (own.map (·.2)) mi bd mt me)) :=
  pe_imp (pe_lc hc hN hi ok hg ht he hs) fun σ H Q h => eLc_read hbd hts ni h
theorem setV_exc {i : Nat} {d : D} {ρ : En} {c : Str} : setV i d ρ ≠ .exc c := by unfold setV; split <;> exact fun h => nomatch h
theorem setVs_exc : ∀ {is : List Nat} {ds : List D} {ρ : En} {c : Str}, setVs is ds ρ ≠ .exc c
  | [], [], _, _ => fun h => nomatch h
  | i :: is, [], _, _ => fun h => nomatch h
  | [], d :: ds, _, _ => fun h => nomatch h
  | i :: is, d :: ds, ρ, c => by
    show (setV i d ρ).bind (fun p => setVs is ds p.2) ≠ .exc c
    cases e : setV i d ρ with
    | ok p => exact setVs_exc
    | exc c => exact absurd e setV_exc
    | bad => exact fun h => nomatch h
theorem bdT_exc {is : List Nat} {d : D} {ρ : En} {c : Str} : bdT is d ρ ≠ .exc c := by
  cases d <;> first | exact setVs_exc | exact fun h => nomatch h
end
end VS

set_option Elab.async false
set_option linter.all false
set_option maxRecDepth 100000
set_option maxHeartbeats 4000000
namespace VS
open PySem PySem.Spec PyProof.Rows L2
section
variable {K : PySem.W.Frag} {C : SC} {B : Bs} {F F' H H' : Hp} {σ σ' : L2.St} {ρ ρ2 : En}
/-- a new list that nobody holds goes into a slot -/
theorem SR.setO (S : SR K C B F σ H ρ) {i : Nat} {p : Addr} {xs : List V} {ds : List D} (ni : C.rf = none ∨ i ≠ 0) (fp : F p = none) (bp : B.b p = none) (no : ∀ i, ¬ OwnAt σ ρ i p) (hp : H p = some (.lst xs)) (z : xs.length ≤ sizeLine) (r : RpAll K F ds xs) :
    SR K C B F (σ.set i (some (.ref p))) H (ρ.set i (.own ds)) := by
  have key : ∀ {j q}, OwnAt (σ.set i (some (.ref p))) (ρ.set i (.own ds)) j q → (j = i ∧ q = p) ∨ (j ≠ i ∧ OwnAt σ ρ j q) := fun {j q} h => by
    obtain ⟨s, e1, o, e2⟩ := h
    by_cases hj : i = j
    · subst hj
      have hlt := (List.getElem?_eq_some_iff.mp e2).1
      rw [List.length_set] at hlt
      rw [List.getElem?_set_self hlt] at e2
      cases e2
      exact .inl ⟨rfl, rfl⟩
    · rw [List.getElem?_set_ne hj] at e1 e2
      exact .inr ⟨Ne.symm hj, s, e1, o, e2⟩
  refine ⟨S.fr, S.nf, S.kp, by simpa using S.len, fun j s w e1 e2 => ?_, fun j k q h1 h2 => ?_, fun q hq => ?_⟩
  · by_cases hj : i = j
    · subst hj
      have hlt := (List.getElem?_eq_some_iff.mp e1).1
      rw [List.length_set] at hlt
      rw [List.getElem?_set_self hlt] at e1
      cases e1
      rw [List.getElem?_set_self (by have := S.len; omega)] at e2
      cases e2
      exact ⟨p, xs, rfl, hp, r, ⟨fp, .inl bp⟩, z⟩
    · rw [List.getElem?_set_ne hj] at e1 e2
      exact S.sl j s w e1 e2
  · rcases key h1 with ⟨rfl, rfl⟩ | ⟨n1, o1⟩
    · rcases key h2 with ⟨rfl, _⟩ | ⟨n2, o2⟩
      · rfl
      · exact (no _ o2).elim
    · rcases key h2 with ⟨rfl, rfl⟩ | ⟨n2, o2⟩
      · exact (no _ o1).elim
      · exact S.ap j k q o1 o2
  · obtain ⟨h1, ds', h2⟩ := S.rf q hq
    rcases ni with n | n
    · rw [n] at hq; cases hq
    · exact ⟨by rw [List.getElem?_set_ne n]; exact h1, ds', by rw [List.getElem?_set_ne n]; exact h2⟩
/-- an own list is changed -/
theorem SR.updOwn (S : SR K C B F σ H ρ) {i : Nat} {ds : List D} (e : ρ[i]? = some (.own ds)) : ∃ p xs, σ[i]? = some (some (.ref p)) ∧ H p = some (.lst xs) ∧ xs.length ≤ sizeLine ∧ RpAll K F ds xs ∧ F p = none ∧
    ∀ {F' H' ds' xs'}, SR K C B F' σ H' ρ → H' p = some (.lst xs) → xs'.length ≤ sizeLine → RpAll K F' ds' xs' → SR K C B F' σ (upd H' p (.lst xs')) (ρ.set i (.own ds')) := by
  have hlt := (List.getElem?_eq_some_iff.mp e).1
  have hl := S.len
  have ev : ∃ v, σ[i]? = some v := ⟨σ[i]'(by omega), by simp⟩
  obtain ⟨v, ev⟩ := ev
  obtain ⟨p, xs, ex, hp, r, ⟨fp, bp⟩, z⟩ := S.sl i _ _ e ev
  subst ex
  refine ⟨p, xs, ev, hp, z, r, fp, fun {F' H' ds' xs'} S' h' z' r' => ?_⟩
  obtain ⟨p', xs2, ex, hp', r2, ⟨fp', bp'⟩, z2⟩ := S'.sl i _ _ e ev
  cases ex
  have oi : OwnAt σ ρ i p := ⟨_, e, rfl, ev⟩
  have key : ∀ {j q}, OwnAt σ (ρ.set i (.own ds')) j q → OwnAt σ ρ j q := fun {j q} h => by
    obtain ⟨s, e1, o, e2⟩ := h
    by_cases hj : i = j
    · subst hj
      exact ⟨_, e, rfl, e2⟩
    · rw [List.getElem?_set_ne hj] at e1
      exact ⟨s, e1, o, e2⟩
  refine ⟨fun a u ea => by rw [upd_ne (ne_of_none ea fp')]; exact S'.fr _ _ ea, S'.nf, fun a u ea ra => ?_, by simpa using S'.len, fun j s w e1 e2 => ?_, fun j k q h1 h2 => S'.ap j k q (key h1) (key h2), fun q hq => ?_⟩
  · rw [upd_ne]
    · exact S'.kp a u ea ra
    · rintro rfl
      rcases bp' with b | b
      · rw [b] at ea; cases ea
      · exact ra b
  · by_cases hj : i = j
    · subst hj
      rw [List.getElem?_set_self hlt] at e1
      cases e1
      rw [ev] at e2; cases e2
      exact ⟨p, xs', rfl, upd_same, r', ⟨fp', bp'⟩, z'⟩
    · rw [List.getElem?_set_ne hj] at e1
      refine (S'.sl j s w e1 e2).mono (Same.refl _) (fun q u eq os h => ?_) (fun _ _ _ n => n)
      rw [upd_ne]
      · exact h
      · rintro rfl
        exact hj (S'.ap i j q oi ⟨s, e1, os, by rw [e2, eq]⟩)
  · obtain ⟨h1, ds'', h2⟩ := S'.rf q hq
    by_cases hi : i = 0
    · subst hi
      exact ⟨h1, ds', List.getElem?_set_self hlt⟩
    · exact ⟨h1, ds'', by rw [List.getElem?_set_ne hi]; exact h2⟩
end
section
variable {X : Cx} {C : SC} {B : Bs} {a b c e tg iter : Expr} {pos pos' apos cpos : Pos} {ma mb mc : M (M D)} {x : Str} {m : M D} {mo : M (List D)} {mt : M Bool} {f g : M Fl} {st : Stmt} {ss rest ss1 ss2 : List Stmt} {i : Nat}
/-! ### blocks -/
def sSeq (a b : M Fl) : M Fl := a >>= fun f => match f with
  | .nx => b
  | .rt d => pure (.rt d)
  | .ro d => pure (.ro d)
  | .bk => pure .bk
  | .ct => pure .ct
theorem mss_nil : PSs X [] (tS X.K C (pure .nx)) := pss_imp pss_nil fun E σ H ⟨B, F, ρ, S, q⟩ => q σ F H (Same.refl _) S
theorem mss_one (h : PS X st (tS X.K C f)) : PSs X [st] (tS X.K C f) := pss_one h
theorem mss_cons (h : PS X st (tS X.K C f)) (h2 : PSs X rest (tS X.K C g)) : PSs X (st :: rest) (tS X.K C (sSeq f g)) := pss_imp (pss_cons h h2) fun E σ H ⟨B, F, ρ, S, q⟩ => by
  refine ⟨B, F, ρ, S, q.bind.imp fun fl ρ1 h1 => ?_⟩
  cases fl with
  | nx => exact fun σ1 F1 H1 s1 S1 => ⟨B, F1, ρ1, S1, RX.imp h1 fun _ _ q => q.mono s1⟩
  | rt d => exact h1
  | ro d => exact h1
  | bk => exact h1
  | ct => exact h1
theorem ms_pass : PS X (.Pass pos) (tS X.K C (pure .nx)) := ps_imp ps_pass fun E σ H ⟨B, F, ρ, S, q⟩ => q σ F H (Same.refl _) S
theorem ms_break : PS X (.Break pos) (tS X.K C (pure .bk)) := ps_imp ps_break fun E σ H ⟨B, F, ρ, S, q⟩ => q σ F H (Same.refl _) S
theorem ms_cont : PS X (.Continue pos) (tS X.K C (pure .ct)) := ps_imp ps_continue fun E σ H ⟨B, F, ρ, S, q⟩ => q σ F H (Same.refl _) S
def sRet (m : M D) : M Fl := m >>= fun d => pure (.rt d)
theorem ms_ret (h : PE X e (tM X.K C m)) : PS X (.Return (some e) pos) (tS X.K C (sRet m)) := ps_imp (ps_ret h) fun E σ H ⟨B, F, ρ, S, q⟩ =>
  tM.of S q.bind fun d ρ1 h1 v F1 H1 s1 S1 r1 => h1 v σ F1 H1 s1 S1 r1
def sRetO (m : M (List D)) : M Fl := m >>= fun d => pure (.ro d)
theorem ms_retO (h : PE X e (tO X.K C mo)) : PS X (.Return (some e) pos) (tS X.K C (sRetO mo)) := ps_imp (ps_ret h) fun E σ H ⟨B, F, ρ, S, q⟩ =>
  tO.of S q.bind fun d ρ1 h1 p xs F1 H1 s1 S1 fp bp no hp z r1 => h1 p xs σ F1 H1 s1 S1 fp bp hp z r1
theorem ms_retN : PS X (.Return none pos) (tS X.K C (pure (.rt .none))) := ps_imp ps_retN fun E σ H ⟨B, F, ρ, S, q⟩ => q .non σ F H (Same.refl _) S rfl
def sDo (m : M D) : M Fl := m >>= fun _ => pure .nx
theorem ms_do (h : PE X e (tM X.K C m)) (hs : swapsWith e none pos.line X.env = pure false := by rfl) : PS X (.Expr e pos) (tS X.K C (sDo m)) := ps_imp (ps_expr h hs) fun E σ H ⟨B, F, ρ, S, q⟩ =>
  tM.of S q.bind fun d ρ1 h1 v F1 H1 s1 S1 r1 => h1 σ F1 H1 s1 S1
def sIf (t : M Bool) (a b : M Fl) : M Fl := t >>= fun c => if c = true then a else b
theorem ms_if (hc : PT X c (tB X.K C mt)) (h1 : PSs X ss1 (tS X.K C f)) (h2 : PSs X ss2 (tS X.K C g)) : PS X (.If c ss1 ss2 pos) (tS X.K C (sIf mt f g)) := ps_imp (ps_if hc h1 h2) fun E σ H ⟨B, F, ρ, S, q⟩ =>
  tB.of S q.bind fun d ρ1 h1 F1 H1 s1 S1 => by
    cases d with
    | true => exact tS.of S1 h1 fun _ _ q => q.mono s1
    | false => exact tS.of S1 h1 fun _ _ q => q.mono s1
/-! ### stores -/
def sSet (i : Nat) (m : M D) : M Fl := m >>= fun d => setV i d >>= fun _ => pure .nx
theorem ms_set (i : Nat) (ni : C.rf = none ∨ i ≠ 0) (hN : X.N.Nodup) (h : PE X e (tM X.K C m)) (hi : X.N[i]? = some x := by rfl) (hx : Loc X.env.scope x := by first | exact .inl rfl | exact .inr rfl) (hs : swapsWith e (some (.Name x pos')) pos.line X.env = pure false := by rfl) (hf : X.fn x = true ∨ X.env.scope.names.lookup x = some .local := by first | exact .inl rfl | exact .inr rfl) :
    PS X (.Assign [.Name x pos'] e pos) (tS X.K C (sSet i m)) := ps_imp (ps_set hN hi hx h hs hf) fun E σ H ⟨B, F, ρ, S, q⟩ =>
  tM.of S q.bind fun d ρ1 h1 v F1 H1 s1 S1 r1 => by
    have h2 := h1.bind
    unfold setV at h2
    by_cases z : i < ρ1.length
    · rw [if_pos z] at h2
      exact h2 _ F1 H1 s1 (S1.setV ni r1)
    · rw [if_neg z] at h2
      exact h2.elim
def setO (i : Nat) (ds : List D) : M Unit := fun ρ => if i < ρ.length then .ok ((), ρ.set i (.own ds)) else .bad
def sSetO (i : Nat) (m : M (List D)) : M Fl := m >>= fun d => setO i d >>= fun _ => pure .nx
theorem sSetO_read {i : Nat} (ni : C.rf = none ∨ i ≠ 0) {E : Ends} {σ : L2.St} {H : Hp} (h : tS X.K C (sSetO i mo) E σ H) : tO X.K C mo σ H (fun v H1 => E.nx (σ.set i (some v)) H1) := by
  obtain ⟨B, F, ρ, S, q⟩ := h
  refine tO.of S q.bind fun ds ρ1 h1 p xs F1 H1 s1 S1 fp bp no hp z r1 => ?_
  have h2 := h1.bind
  unfold setO at h2
  by_cases z2 : i < ρ1.length
  · rw [if_pos z2] at h2
    exact h2 _ F1 H1 s1 (S1.setO ni fp bp no hp z r1)
  · rw [if_neg z2] at h2
    exact h2.elim
theorem ms_setO (i : Nat) (ni : C.rf = none ∨ i ≠ 0) (hN : X.N.Nodup) (h : PE X e (tO X.K C mo)) (hi : X.N[i]? = some x := by rfl) (hx : Loc X.env.scope x := by first | exact .inl rfl | exact .inr rfl) (hs : swapsWith e (some (.Name x pos')) pos.line X.env = pure false := by rfl) (hf : X.fn x = true ∨ X.env.scope.names.lookup x = some .local := by first | exact .inl rfl | exact .inr rfl) :
    PS X (.Assign [.Name x pos'] e pos) (tS X.K C (sSetO i mo)) := ps_imp (ps_set hN hi hx h hs hf) fun E σ H h => sSetO_read ni h
/-- y = [.. for ..] -/
theorem ms_lc {elt : Expr} {ifs : List Expr} {scope : Scope} {own : List (Str × Nat)} {spos lpos py : Pos} {mi : M (List D)} {bd : D → M Unit} {me : M D} {is : List Nat} {y : Str} (i : Nat) (ni0 : C.rf = none ∨ i ≠ 0) (hbd : ∀ d ρ c, bd d ρ ≠ .exc c) (hts : ∀ i ∈ is, i ∈ own.map (·.2)) (ni : ∀ v ∈ own.map (·.2), C.rf = none ∨ v ≠ 0)
    (hc : X.calm = true) (hN : X.N.Nodup) (hi : PI X tg iter (tI X.K C mi)) (ok : BlkOk X.N X.env.scope scope own)
    (hg : ∀ (s : Shared) (H : Hp) (L : Addr) (cl : List (Str × Addr)) (fp : List Addr), PG (X.blk s H scope (compEnvC scope cl L X.env) fp) tg (tG X.K C.nox is bd)) (ht : ∀ (s : Shared) (H : Hp) (L : Addr) (cl : List (Str × Addr)) (fp : List Addr), PTs (X.blk s H scope (compEnvC scope cl L X.env) fp) ifs (tB X.K C.nox mt))
    (he : ∀ (s : Shared) (H : Hp) (L : Addr) (cl : List (Str × Addr)) (fp : List Addr), PE (X.blk s H scope (compEnvC scope cl L X.env) fp) elt (tM X.K C.nox me)) (hy : X.N[i]? = some y := by rfl) (hyl : X.env.scope.names.lookup y = some .local := by rfl)
    (hsw : swapsWith (.ListComp elt [⟨tg, iter, ifs, 0⟩] scope lpos) (some (.Name y py)) spos.line X.env = pure true := by exact sw_true rfl rfl rfl (by decide +kernel)) (hs : ∀ x, foldedSetIterable iter X.env x = pure x := by intro _; rfl) :
    PS X (.Assign [.Name y py] (.ListComp elt [⟨tg, iter, ifs, 0⟩] scope lpos) spos) (tS X.K C (sSetO i (eLc (own.map (·.2)) mi bd mt me))) :=
  ps_imp (ps_setLc hc hN hy hyl hsw hi ok hg ht he hs) fun E σ H h => eLc_read hbd hts ni (sSetO_read ni0 h)
/-- the same where the name is a cell: a plain store -/
theorem pa1 {t : TE} (h : PE X a t) (hs : starEach [a] X.env = (false, eval a X.env) :: starEach [] X.env := by rfl) : PA X [a] (tCons t tNil) := pa_cons h pa_nil hs
def appO (i : Nat) (d : D) : M Unit := fun ρ => match ρ[i]? with
  | some (.own ds) => if ds.length < sizeLine then .ok ((), ρ.set i (.own (ds ++ [d]))) else .bad
  | _ => .bad
def sApp (i : Nat) (m : M D) : M Fl := m >>= fun d => appO i d >>= fun _ => pure .nx
theorem own_ty {F H : Hp} {σ : L2.St} {ρ : En} {v : V} (S : SR X.K C B F σ H ρ) {s : Sl} (e1 : ρ[i]? = some s) (o : ∃ ds, s = .own ds) (e2 : σ[i]? = some (some v)) : tyV X.K "list" v H := by
  obtain ⟨ds, rfl⟩ := o
  obtain ⟨p, xs, ex, hp, _⟩ := S.sl i _ _ e1 e2
  cases ex
  exact .inl ⟨rfl, xs, .of hp⟩
theorem own_at {F H : Hp} {σ : L2.St} {ρ : En} (S : SR X.K C B F σ H ρ) {ds : List D} (e1 : ρ[i]? = some (.own ds)) : ∃ p, σ[i]? = some (some (.ref p)) ∧ tyV X.K "list" (.ref p) H := by
  obtain ⟨p, xs, ev, hp, _⟩ := S.updOwn e1
  exact ⟨p, ev, .inl ⟨rfl, xs, .of hp⟩⟩
/-- the slot is somebody's own list ahead of the arguments, and behind -/
def isO (i : Nat) : M Unit := fun ρ => match ρ[i]? with
  | some (.own _) => .ok ((), ρ)
  | _ => .bad
theorem isO_read {α : Type} {Φ : α → En → Prop} {ρ : En} {k : M α} (h : RX C B Φ ((isO i >>= fun _ => k) ρ)) : (∃ ds, ρ[i]? = some (.own ds)) ∧ RX C B Φ (k ρ) := by
  have h2 := h.bind
  unfold isO at h2
  cases e : ρ[i]? with
  | none => rw [e] at h2; exact h2.elim
  | some s =>
    rw [e] at h2
    cases s with
    | own ds => exact ⟨⟨ds, rfl⟩, h2⟩
    | _ => exact h2.elim
def sApp' (i : Nat) (m : M D) : M Fl := isO i >>= fun _ => sApp i m
theorem ms_app (i : Nat) (h : PE X a (tM X.K C m)) (hN : X.N[i]? = some x := by rfl) (hv : Vis X.env.scope x := by first | exact Or.inl rfl | exact Or.inr (Or.inl rfl) | exact Or.inr (Or.inr rfl)) (hd : (x == ("__debug__" : Str)) = false := by decide)
    (hcd : (x == ("__classdict__" : Str)) = false := by decide) (hbase : attributeBase (.Name x pos) "append" X.env (eval (.Name x pos) X.env) = eval (.Name x pos) X.env := by rfl)
    (hfew : ((backTo cpos (starEach [a] X.env)).all (fun x => !x.1) && (backToKw cpos (keywordEach [] X.env)).all (fun x => x.1.isSome) && decide ([a].length + ([] : List Keyword).length + (if ([] : List Keyword).isEmpty then 0 else 1) < 30)) = true := by rfl)
    (hline : (apos.endLine == cpos.line) = true := by rfl) (hs : starEach [a] X.env = (false, eval a X.env) :: starEach [] X.env := by rfl) (hplain : (backTo cpos (starEach [] X.env)).any (·.1) = false := by rfl) (hsw : swapsWith (.Call (.Attribute (.Name x pos) "append" apos) [a] [] cpos) none pos'.line X.env = pure false := by rfl) :
    PS X (.Expr (.Call (.Attribute (.Name x pos) "append" apos) [a] [] cpos) pos') (tS X.K C (sApp' i m)) :=
  ps_imp (ps_expr (pe_bm PySem.F.plainAttrs_list PySem.F.slot_list_append PySem.F.type_list_append mt_append (pe_var hN hv hd hcd) (pa1 h hs) hbase hfew hline hs hplain) hsw) fun E σ H ⟨B, F, ρ, S, q⟩ => by
    obtain ⟨⟨ds, e0⟩, q⟩ := isO_read q
    obtain ⟨p, ev, ty⟩ := own_at S e0
    refine ⟨_, ev, ty, ?_⟩
    refine tM.of S q.bind fun d ρ1 h1 v F1 H1 s1 S1 r1 => ?_
    have h2 := h1.bind
    unfold appO at h2
    cases e : ρ1[i]? with
    | none => rw [e] at h2; exact h2.elim
    | some s =>
      rw [e] at h2
      cases s with
      | own ds1 =>
        by_cases z : ds1.length < sizeLine
        · simp only [if_pos z] at h2
          obtain ⟨p1, xs, ev1, hp, zx, r, fp, k⟩ := S1.updOwn e
          rw [ev] at ev1; cases ev1
          have lx := r.len
          exact ⟨p, xs, v, rfl, rfl, hp, by omega, h2 σ F1 _ s1 (k S1 hp (by simp; omega) (r.append (.cons r1 .nil)))⟩
        · simp only [if_neg z] at h2
          exact h2.elim
      | _ => exact h2.elim
def extO (i : Nat) (d : D) : M Unit := fun ρ => match ρ[i]?, d with
  | some (.own ds), .list es => if ds.length + es.length ≤ sizeLine then .ok ((), ρ.set i (.own (ds ++ es))) else .bad
  | _, _ => .bad
def sExt (i : Nat) (m : M D) : M Fl := isO i >>= fun _ => m >>= fun d => extO i d >>= fun _ => pure .nx
theorem ms_ext (i : Nat) (h : PE X a (tM X.K C m)) (hN : X.N[i]? = some x := by rfl) (hv : Vis X.env.scope x := by first | exact Or.inl rfl | exact Or.inr (Or.inl rfl) | exact Or.inr (Or.inr rfl)) (hd : (x == ("__debug__" : Str)) = false := by decide)
    (hcd : (x == ("__classdict__" : Str)) = false := by decide) (hbase : attributeBase (.Name x pos) "extend" X.env (eval (.Name x pos) X.env) = eval (.Name x pos) X.env := by rfl)
    (hfew : ((backTo cpos (starEach [a] X.env)).all (fun x => !x.1) && (backToKw cpos (keywordEach [] X.env)).all (fun x => x.1.isSome) && decide ([a].length + ([] : List Keyword).length + (if ([] : List Keyword).isEmpty then 0 else 1) < 30)) = true := by rfl)
    (hline : (apos.endLine == cpos.line) = true := by rfl) (hs : starEach [a] X.env = (false, eval a X.env) :: starEach [] X.env := by rfl) (hplain : (backTo cpos (starEach [] X.env)).any (·.1) = false := by rfl) (hsw : swapsWith (.Call (.Attribute (.Name x pos) "extend" apos) [a] [] cpos) none pos'.line X.env = pure false := by rfl) :
    PS X (.Expr (.Call (.Attribute (.Name x pos) "extend" apos) [a] [] cpos) pos') (tS X.K C (sExt i m)) :=
  ps_imp (ps_expr (pe_bm PySem.F.plainAttrs_list PySem.F.slot_list_extend PySem.F.type_list_extend mt_extendR (pe_var hN hv hd hcd) (pa1 h hs) hbase hfew hline hs hplain) hsw) fun E σ H ⟨B, F, ρ, S, q⟩ => by
    obtain ⟨⟨ds, e0⟩, q⟩ := isO_read q
    obtain ⟨p, ev, ty⟩ := own_at S e0
    refine ⟨_, ev, ty, ?_⟩
    refine tM.of S q.bind fun d ρ1 h1 v F1 H1 s1 S1 r1 => ?_
    have h2 := h1.bind
    unfold extO at h2
    cases e : ρ1[i]? with
    | none => rw [e] at h2; exact h2.elim
    | some s =>
      rw [e] at h2
      cases s with
      | own ds1 =>
        cases d <;> try exact h2.elim
        rename_i es
        by_cases z : ds1.length + es.length ≤ sizeLine
        · simp only [if_pos z] at h2
          obtain ⟨p1, xs, ev1, hp, zx, r, fp, k⟩ := S1.updOwn e
          rw [ev] at ev1; cases ev1
          obtain ⟨q1, ys, rfl, fq, zy, r2⟩ := r1
          have lx := r.len
          have ly := r2.len
          exact ⟨p, q1, xs, ys, rfl, rfl, hp, rd_same S1.fr fq, by omega, h2 σ F1 _ s1 (k S1 hp (by simp; omega) (r.append r2))⟩
        · simp only [if_neg z] at h2
          exact h2.elim
      | _ => cases d <;> exact h2.elim
/-! ### x[k] = e -/
def setIxO (i : Nat) (k d : D) : M Unit := fun ρ => match ρ[i]?, k with
  | some (.own ds), .int k => match ixN ds.length k with
    | some j => .ok ((), ρ.set i (.own (ds.set j d)))
    | none => .bad
  | _, _ => .bad
def sSetIx (i : Nat) (mk : M (M D)) (m : M D) : M Fl := m >>= fun d => isO i >>= fun _ => mk >>= fun k => k >>= fun k => setIxO i k d >>= fun _ => pure .nx
theorem ms_setIx {spos : Pos} (i : Nat) (h : PE X a (tM X.K C m)) (hk : PE X b (tL X.K C mb)) (hN : X.N[i]? = some x := by rfl) (hv : Vis X.env.scope x := by first | exact Or.inl rfl | exact Or.inr (Or.inl rfl) | exact Or.inr (Or.inr rfl)) (hd : (x == ("__debug__" : Str)) = false := by decide)
    (hcd : (x == ("__classdict__" : Str)) = false := by decide) (ha : ∀ v, assign (.Subscript (.Name x pos) b spos) X.env v = (do
      let ov ← holding [v] (eval (.Name x pos) X.env)
      let iv ← holding [v, ov] (eval b X.env)
      standAt spos
      holding [v, ov, iv] (setItem ov iv v)
      release [v, ov, iv] []) := by intro _; rfl) (hs : swapsWithSole [.Subscript (.Name x pos) b spos] a cpos.line X.env = pure false := by rfl) (hw : swappedStores [.Subscript (.Name x pos) b spos] a X.env = pure none := by rfl)
    (h1 : (assignEach [.Subscript (.Name x pos) b spos] X.env).map (·.2) = [assign (.Subscript (.Name x pos) b spos) X.env] := by rfl) :
    PS X (.Assign [.Subscript (.Name x pos) b spos] a cpos) (tS X.K C (sSetIx i mb m)) :=
  ps_imp (ps_asg h (pg_sub (pe_var hN hv hd hcd) hk set_list ha) hs hw h1) fun E σ H ⟨B, F, ρ, S, q⟩ => by
    refine tM.of S q.bind fun d ρ1 h1 v F1 H1 s1 S1 r1 => ?_
    obtain ⟨⟨ds, e0⟩, h1⟩ := isO_read h1
    obtain ⟨p, ev, ty⟩ := own_at S1 e0
    refine ⟨_, ev, ?_⟩
    refine tL.of S1 h1.bind fun lk ρ2 h2 u F2 H2 s2 S2 r2 => ?_
    obtain ⟨k, rk, h3⟩ := late_step S2 r2 h2
    have h4 := h3.bind
    unfold setIxO at h4
    cases e : ρ2[i]? with
    | none => rw [e] at h4; exact h4.elim
    | some s =>
      rw [e] at h4
      cases s with
      | own ds1 =>
        cases k <;> try exact h4.elim
        rename_i k
        cases ek : ixN ds1.length k with
        | none => simp only [ek] at h4; exact h4.elim
        | some j =>
          simp only [ek] at h4
          obtain ⟨p1, xs, ev1, hp, zx, r, fp, kk⟩ := S2.updOwn e
          rw [ev] at ev1; cases ev1
          exact ⟨p, xs, k, j, rfl, rpv_int rk, hp, by rw [← r.len]; exact ek, h4 σ F2 _ (s1.trans s2) (kk S2 hp (by simpa using zx) (r.set j (r1.mono s2)))⟩
      | _ => cases k <;> exact h4.elim
/-! ### pop -/
def popO (i : Nat) : M D := fun ρ => match ρ[i]? with
  | some (.own ds) => match ds[ds.length - 1]? with
    | some d => .ok (d, ρ.set i (.own ds.dropLast))
    | none => .bad
  | _ => .bad
theorem m_pop (i : Nat) (hN : X.N[i]? = some x := by rfl) (hv : Vis X.env.scope x := by first | exact Or.inl rfl | exact Or.inr (Or.inl rfl) | exact Or.inr (Or.inr rfl)) (hd : (x == ("__debug__" : Str)) = false := by decide)
    (hcd : (x == ("__classdict__" : Str)) = false := by decide) (hbase : attributeBase (.Name x pos) "pop" X.env (eval (.Name x pos) X.env) = eval (.Name x pos) X.env := by rfl) (hline : (apos.endLine == cpos.line) = true := by rfl) :
    PE X (.Call (.Attribute (.Name x pos) "pop" apos) [] [] cpos) (tM X.K C (popO i)) :=
  pe_imp (pe_bm0 PySem.F.plainAttrs_list PySem.F.slot_list_pop PySem.F.type_list_pop mt_pop (pe_var hN hv hd hcd) hbase hline) fun σ H Q ⟨B, F, ρ, S, q⟩ => by
    unfold popO at q
    cases e : ρ[i]? with
    | none => rw [e] at q; exact q.elim
    | some s =>
      rw [e] at q
      cases s with
      | own ds =>
        simp only at q
        cases el : ds[ds.length - 1]? with
        | none => rw [el] at q; exact q.elim
        | some d =>
          rw [el] at q
          obtain ⟨p, ev, ty⟩ := own_at S e
          obtain ⟨p1, xs, ev1, hp, zx, r, fp, kk⟩ := S.updOwn e
          rw [ev] at ev1; cases ev1
          obtain ⟨v, e2, rv⟩ := r.get' el
          rw [r.len] at e2
          exact ⟨_, ev, ty, p, xs, v, rfl, rfl, hp, e2, q v F _ (Same.refl _) (kk S hp (by simp; omega) r.dropLast) rv⟩
      | _ => exact q.elim
def popAtO (i : Nat) (k : D) : M D := fun ρ => match ρ[i]?, k with
  | some (.own ds), .int k => if -(2 ^ 63) ≤ k ∧ k < 2 ^ 63 then match seqIndex? k ds.length with
    | some j => match ds[j]? with
      | some d => .ok (d, ρ.set i (.own (ds.eraseIdx j)))
      | none => .bad
    | none => .bad else .bad
  | _, _ => .bad
def ePopAt (i : Nat) (m : M D) : M D := isO i >>= fun _ => m >>= fun k => popAtO i k
theorem m_popAt (i : Nat) (h : PE X a (tM X.K C m)) (hN : X.N[i]? = some x := by rfl) (hv : Vis X.env.scope x := by first | exact Or.inl rfl | exact Or.inr (Or.inl rfl) | exact Or.inr (Or.inr rfl)) (hd : (x == ("__debug__" : Str)) = false := by decide)
    (hcd : (x == ("__classdict__" : Str)) = false := by decide) (hbase : attributeBase (.Name x pos) "pop" X.env (eval (.Name x pos) X.env) = eval (.Name x pos) X.env := by rfl)
    (hfew : ((backTo cpos (starEach [a] X.env)).all (fun x => !x.1) && (backToKw cpos (keywordEach [] X.env)).all (fun x => x.1.isSome) && decide ([a].length + ([] : List Keyword).length + (if ([] : List Keyword).isEmpty then 0 else 1) < 30)) = true := by rfl)
    (hline : (apos.endLine == cpos.line) = true := by rfl) (hs : starEach [a] X.env = (false, eval a X.env) :: starEach [] X.env := by rfl) (hplain : (backTo cpos (starEach [] X.env)).any (·.1) = false := by rfl) :
    PE X (.Call (.Attribute (.Name x pos) "pop" apos) [a] [] cpos) (tM X.K C (ePopAt i m)) :=
  pe_imp (pe_bm PySem.F.plainAttrs_list PySem.F.slot_list_pop PySem.F.type_list_pop mt_popAt (pe_var hN hv hd hcd) (pa1 h hs) hbase hfew hline hs hplain) fun σ H Q ⟨B, F, ρ, S, q⟩ => by
    obtain ⟨⟨ds0, e0⟩, q⟩ := isO_read q
    obtain ⟨p, ev, ty⟩ := own_at S e0
    refine ⟨_, ev, ty, ?_⟩
    refine tM.of S q.bind fun k ρ1 h1 v F1 H1 s1 S1 r1 => ?_
    unfold popAtO at h1
    cases e : ρ1[i]? with
    | none => rw [e] at h1; exact h1.elim
    | some s =>
      rw [e] at h1
      cases s with
      | own ds =>
        cases k <;> try exact h1.elim
        rename_i k
        by_cases z : -(2 ^ 63) ≤ k ∧ k < 2 ^ 63
        · simp only [if_pos z] at h1
          cases ej : seqIndex? k ds.length with
          | none => rw [ej] at h1; exact h1.elim
          | some j =>
            simp only [ej] at h1
            cases el : ds[j]? with
            | none => rw [el] at h1; exact h1.elim
            | some d =>
              rw [el] at h1
              obtain ⟨p1, xs, ev1, hp, zx, r, fp, kk⟩ := S1.updOwn e
              rw [ev] at ev1; cases ev1
              obtain ⟨v2, e2, rv⟩ := r.get' el
              exact ⟨p, xs, k, j, v2, rfl, by rw [show v = .int k from r1], hp, z.1, z.2, by rw [← r.len]; exact ej, e2, h1 v2 F1 _ s1 (kk S1 hp (Nat.le_trans (len_erase xs j) zx) (r.erase j)) rv⟩
        · simp only [if_neg z] at h1
          exact h1.elim
      | _ => cases k <;> exact h1.elim
/-! ### loops -/
def forGo (bd : D → M Unit) (body : M Fl) : List D → M Fl
  | [] => pure .nx
  | d :: ds => bd d >>= fun _ => body >>= fun f => match f with
    | .nx => forGo bd body ds
    | .ct => forGo bd body ds
    | .bk => pure .nx
    | .rt d => pure (.rt d)
    | .ro d => pure (.ro d)
def sFor (mi : M (List D)) (bd : D → M Unit) (body : M Fl) : M Fl := mi >>= fun ds => forGo bd body ds
theorem ms_for {body : List Stmt} {mi : M (List D)} {bd : D → M Unit} {mb : M Fl} {is : List Nat} (hbd : ∀ d ρ c, bd d ρ ≠ .exc c) (hp : PassesOwn (model X.prog X.w) X.A X.env X.xe) (hc : X.calm = true) (hi : PI X tg iter (tI X.K C mi)) (hg : PG X tg (tG X.K C is bd)) (hb : PSs X body (tS X.K C mb))
    (hs : ∀ x, foldedSetIterable iter X.env x = pure x := by intro _; rfl) : PS X (.For tg iter body [] pos) (tS X.K C (sFor mi bd mb)) := ps_imp (ps_for hp hc hi hg hb hs) fun E σ H ⟨B, F, ρ, S, q⟩ => by
  refine ⟨B, F, ρ, S, q.bind.imp fun ds ρ1 h1 J F1 H1 s1 S1 w => ?_⟩
  refine ⟨fun i m σ H' => m = ds.length - i ∧ i ≤ ds.length ∧ ∃ F' ρ', Same F1 F' ∧ SR X.K C B F' σ H' ρ' ∧ RX C B (PF X.K C B F E) (forGo bd mb (ds.drop i) ρ'), ⟨ds.length, by simp, Nat.zero_le _, F1, ρ1, Same.refl _, S1, h1⟩, ?_⟩
  rintro i m σ2 H' ⟨rfl, hi, F', ρ', sf, S', q'⟩
  have wi := w i H' (fun b o e => S'.fr _ _ (sf _ _ e))
  by_cases hlt : i < ds.length
  · obtain ⟨d, ed⟩ : ∃ d, ds[i]? = some d := ⟨ds[i], by simp [hlt]⟩
    obtain ⟨go, yl⟩ := wi.1 d ed
    refine .inr ⟨go, fun σ3 H3 => ∃ F' ρ', Same F1 F' ∧ SR X.K C B F' σ3 H3 ρ' ∧ RX C B (PF X.K C B F E) (forGo bd mb (ds.drop (i + 1)) ρ'), fun σ3 H3 h => ⟨ds.length - (i + 1), by omega, rfl, hlt, h⟩, fun x H2 y => ?_⟩
    have drop : ds.drop i = d :: ds.drop (i + 1) := by
      rw [List.drop_eq_getElem_cons hlt]
      congr 1
      have := List.getElem?_eq_getElem hlt
      rw [ed] at this
      exact (Option.some.inj this).symm
    rw [drop] at q'
    obtain ⟨F2, s2, S2, r2⟩ := Yields.sr sf S' (yl x H2 y)
    have q1 : RX C B (PF X.K C B F E) ((bd d >>= fun _ => mb >>= fun f => match f with
      | .nx => forGo bd mb (ds.drop (i + 1))
      | .ct => forGo bd mb (ds.drop (i + 1))
      | .bk => pure .nx
      | .rt d => pure (.rt d)
      | .ro d => pure (.ro d)) ρ') := q'
    refine ⟨B, F2, ρ', d, S2, r2, ?_⟩
    refine q1.bind.imp fun _ ρ3 h3 σ3 ch S3 => ?_
    refine ⟨B, F2, ρ3, S3, h3.bind.imp fun f ρ4 h4 => ?_⟩
    have base : Same F F2 := s1.trans (sf.trans s2)
    cases f with
    | nx => exact fun σ4 F4 H4 s4 S4 => ⟨F4, ρ4, sf.trans (s2.trans s4), S4, h4⟩
    | ct => exact fun σ4 F4 H4 s4 S4 => ⟨F4, ρ4, sf.trans (s2.trans s4), S4, h4⟩
    | bk => exact fun σ4 F4 H4 s4 S4 => h4 σ4 F4 H4 (base.trans s4) S4
    | rt d => exact fun v σ4 F4 H4 s4 S4 r4 => h4 v σ4 F4 H4 (base.trans s4) S4 r4
    | ro d => exact fun p xs σ4 F4 H4 s4 => h4 p xs σ4 F4 H4 (base.trans s4)
  · have e : i = ds.length := by omega
    subst e
    rw [List.drop_length] at q'
    exact .inl ⟨wi.2 (Nat.le_refl _), q' σ2 F' H' (s1.trans sf) S'⟩
/-- while, at most n turns -/
def whGo (mt : M Bool) (body : M Fl) : Nat → M Fl
  | 0 => fun _ => .bad
  | n + 1 => mt >>= fun c => if c = true then body >>= fun f => match f with
    | .nx => whGo mt body n
    | .ct => whGo mt body n
    | .bk => pure .nx
    | .rt d => pure (.rt d)
    | .ro d => pure (.ro d) else pure .nx
theorem ms_while {body : List Stmt} {mb : M Fl} (n : Nat) (hp : PassesOwn (model X.prog X.w) X.A X.env X.xe) (hc : PT X c (tB X.K C mt)) (hb : PSs X body (tS X.K C mb)) : PS X (.While c body [] pos) (tS X.K C (whGo mt mb n)) := ps_imp (ps_while hp hc hb) fun E σ H ⟨B, F, ρ, S, q⟩ => by
  refine ⟨fun m σ H' => ∃ F' ρ', Same F F' ∧ SR X.K C B F' σ H' ρ' ∧ RX C B (PF X.K C B F E) (whGo mt mb m ρ'), ⟨n, F, ρ, Same.refl _, S, q⟩, ?_⟩
  rintro m σ2 H' ⟨F', ρ', sf, S', q'⟩
  cases m with
  | zero => exact (show False from q').elim
  | succ m =>
    have q1 : RX C B (PF X.K C B F E) ((mt >>= fun c => if c = true then mb >>= fun f => match f with
      | .nx => whGo mt mb m
      | .ct => whGo mt mb m
      | .bk => pure .nx
      | .rt d => pure (.rt d)
      | .ro d => pure (.ro d) else pure .nx) ρ') := q'
    refine ⟨B, F', ρ', S', q1.bind.imp fun k ρ3 h3 F3 H3 s3 S3 => ?_⟩
    cases k with
    | false => exact h3 σ2 F3 H3 (sf.trans s3) S3
    | true =>
      refine ⟨fun σ4 H4 => ∃ F' ρ', Same F F' ∧ SR X.K C B F' σ4 H4 ρ' ∧ RX C B (PF X.K C B F E) (whGo mt mb m ρ'), fun σ4 H4 h => ⟨m, Nat.lt_succ_self _, h⟩, ?_⟩
      have h4 := RX.bind (show RX C B (PF X.K C B F E) ((mb >>= fun f => match f with
      | .nx => whGo mt mb m
      | .ct => whGo mt mb m
      | .bk => pure .nx
      | .rt d => pure (.rt d)
      | .ro d => pure (.ro d)) ρ3) from h3)
      refine ⟨B, F3, ρ3, S3, h4.imp fun f ρ4 h5 => ?_⟩
      cases f with
      | nx => exact fun σ4 F4 H4 s4 S4 => ⟨F4, ρ4, sf.trans (s3.trans s4), S4, h5⟩
      | ct => exact fun σ4 F4 H4 s4 S4 => ⟨F4, ρ4, sf.trans (s3.trans s4), S4, h5⟩
      | bk => exact fun σ4 F4 H4 s4 S4 => h5 σ4 F4 H4 (sf.trans (s3.trans s4)) S4
      | rt d => exact fun v σ4 F4 H4 s4 S4 r4 => h5 v σ4 F4 H4 (sf.trans (s3.trans s4)) S4 r4
      | ro d => exact fun p xs σ4 F4 H4 s4 => h5 p xs σ4 F4 H4 (sf.trans (s3.trans s4))
end
end VS

set_option Elab.async false
set_option linter.all false
set_option maxRecDepth 100000
set_option maxHeartbeats 4000000
namespace VS
open PySem PySem.Spec PyProof.Rows L2
/-! ### promises -/
/-- what a def leaves: all that was there, the unfrozen stays unfrozen -/
def Left (F H F' H' : Hp) : Prop := Same F F' ∧ Same F' H' ∧ Same H H' ∧ ∀ q u, H q = some u → F q = none → F' q = none
def spV (K : PySem.W.Frag) (mg : Str → Option Value) (n : Nat) (f : List D → Res D) : Sp := fun vs H Q E => ∃ ds F, Same F H ∧ RpAll K F ds vs ∧ ds.length = n ∧ match f ds with
  | .ok d => ∀ v F' H', Left F H F' H' → Rp K F' d v → Q v H'
  | .exc c => ∀ H' Cc, Same H H' → mg c = some (.ref Cc) → E (.ref Cc) none H'
  | .bad => False
/-- a new list is handed back, to be the caller's own -/
def spO (K : PySem.W.Frag) (n : Nat) (f : List D → Res (List D)) : Sp := fun vs H Q E => ∃ ds F, Same F H ∧ RpAll K F ds vs ∧ ds.length = n ∧ match f ds with
  | .ok es => ∀ p xs F' H', Left F H F' H' → F' p = none → H p = none → H' p = some (.lst xs) → xs.length ≤ sizeLine → RpAll K F' es xs → Q (.ref p) H'
  | _ => False
/-- the first argument is a list of the caller's that is changed -/
def spR (K : PySem.W.Frag) (n : Nat) (f : List D → List D → Res (D × List D)) : Sp := fun vs H Q E => ∃ p ws ds es F xs, vs = .ref p :: ws ∧ Same F H ∧ F p = none ∧ H p = some (.lst xs) ∧ xs.length ≤ sizeLine ∧ RpAll K F ds xs ∧ RpAll K F es ws ∧ es.length = n ∧ match f ds es with
  | .ok (d, ds') => ∀ v F' H' xs', Same F F' → Same F' H' → (∀ a o, H a = some o → a ≠ p → H' a = some o) → (∀ q u, H q = some u → F q = none → F' q = none) → H' p = some (.lst xs') → xs'.length ≤ sizeLine → RpAll K F' ds' xs' → Rp K F' d v → Q v H'
  | _ => False
/-- what is wanted of an exception, by its class -/
def EX (mg : Str → Option Value) (C : SC) : XK := fun cls d H' => d = none ∧ ∃ c Cc, cls = .ref Cc ∧ mg c = some cls ∧ C.Ex c H'
structure Ok (X : Cx) (C : SC) (k : Nat) : Prop where
  calm : X.calm = true
  nd : X.N.Nodup
  room : Room k X.A
  pass : Passes (L2.CX X.prog X.w) X (EX X.mg C)
  own : PassesOwn (model X.prog X.w) X.A X.env X.xe
theorem pass_no {X : Cx} {E : XK} (h : ∀ cls d H', ¬ E cls d H') : Passes (L2.CX X.prog X.w) X E := fun _ _ _ _ _ _ _ q => by
  obtain ⟨_, _, _, _, _, _, _, _, _, _, _, _, z⟩ := q
  exact (h _ _ _ z).elim
theorem ex_nox {mg : Str → Option Value} {C : SC} (cls : Value) (d : Option Addr) (H' : Hp) : ¬ EX mg C.nox cls d H' := fun ⟨_, _, _, _, _, z⟩ => z
theorem Ok.blk {X : Cx} {C : SC} {k : Nat} (c : Ok X C k) (s : Shared) (H : Hp) (scope : Scope) (cenv : PySem.Env) (fp : List Addr) : Ok (X.blk s H scope cenv fp) C.nox k :=
  ⟨c.calm, c.nd, c.room, pass_no ex_nox, PassesOwn.never⟩
theorem Ok.units {X : Cx} {C : SC} {k : Nat} (c : Ok X C k) : X.A.units + 64 < cLine := c.room.units
theorem Ok.units0 {X : Cx} {C : SC} {k : Nat} (c : Ok X C k) : X.A.units < cLine := c.room.units0
/-! ### calls -/
section
variable {X : Cx} {C : SC} {B : Bs} {a b : Expr} {pos p p2 : Pos} {x y : Str} {k j : Nat} {fa : Addr} {fd : FuncData} {ps : List Str} {n : Nat} {es : List Expr} {ms : M (List D)} {i : Nat}
def eCall (f : List D → Res D) (ms : M (List D)) : M D := ms >>= fun ds => M.lift (f ds)
theorem spV_of {f : List D → Res D} {F H : Hp} {σ : L2.St} {ρ : En} {Q : VK} {ds : List D} {vs : List V} (S : SR X.K C B F σ H ρ) (r : RpAll X.K F ds vs) (hn : ds.length = n) (h : RX C B (PD X.K C B σ F Q) (M.lift (f ds) ρ)) : spV X.K X.mg n f vs H Q (EX X.mg C) := by
  refine ⟨ds, F, S.fr, r, hn, ?_⟩
  cases e : f ds with
  | ok d =>
    rw [e] at h
    exact fun v F' H' l rv => h v F' H' l.1 (S.grow l.2.2.1 l.1 l.2.1 l.2.2.2) rv
  | exc c =>
    rw [e] at h
    exact fun H' Cc s hc => ⟨rfl, c, Cc, rfl, hc, h H' fun a o e r => s _ _ (S.kp a o e r)⟩
  | bad => rw [e] at h; exact h
theorem m_call {f : List D → Res D} (G : FnOk X.prog X.w X.K X.mg X.base (L2.CX X.prog X.w) j fa fd ps (spV X.K X.mg n f)) (c : Ok X C k) (hj : j ≤ k) (hm : X.mg x = some (.ref fa)) (hk : PySem.W.keepIn X.K (.ref fa) = true) (hb : Binds X.K fd ps []) (ha : PA X (a :: es) (tA X.K C ms)) (hg : Gl X x := by rfl) (hdb : (x == ("__debug__" : Str)) = false := by decide)
    (he : starEach (a :: es) X.env = (false, eval a X.env) :: starEach es X.env := by rfl) (hpl : (backTo pos (starEach es X.env)).any (·.1) = false := by rfl) (hln : ∀ ρ ds ρ', ms ρ = .ok (ds, ρ') → ds.length = n) : PE X (.Call (.Name x p) (a :: es) [] pos) (tM X.K C (eCall f ms)) :=
  pe_imp (pe_call G (c.room.mono hj) hg hm hk hb .nil c.pass ha hdb he hpl) fun σ H Q ⟨B, F, ρ, S, q⟩ => by
    have q1 := q.bind
    cases e : ms ρ with
    | bad => rw [e] at q1; exact q1.elim
    | exc cc =>
      refine ⟨B, F, ρ, S, ?_⟩
      rw [e] at q1 ⊢
      exact q1
    | ok pr =>
      obtain ⟨ds, ρ1⟩ := pr
      refine ⟨B, F, ρ, S, ?_⟩
      rw [e] at q1 ⊢
      exact fun vs F1 H1 s1 S1 r1 => by
        show spV X.K X.mg n f (vs ++ []) H1 Q (EX X.mg C)
        rw [List.append_nil]
        exact spV_of S1 r1 (hln ρ ds ρ1 e) (RX.imp (show RX C B (PD X.K C B σ F Q) (M.lift (f ds) ρ1) from q1) fun _ _ q => q.mono s1)
theorem len_nil : ∀ ρ ds ρ', (pure [] : M (List D)) ρ = .ok (ds, ρ') → ds.length = 0 := fun ρ ds ρ' e => by cases e; rfl
theorem len_cons {va : M D} {vs : M (List D)} {n : Nat} (h : ∀ ρ ds ρ', vs ρ = .ok (ds, ρ') → ds.length = n) : ∀ ρ ds ρ', eCons va vs ρ = .ok (ds, ρ') → ds.length = n + 1 := fun ρ ds ρ' e => by
  have e' : ((va ρ).bind fun p => (vs p.2).bind fun q => .ok (p.1 :: q.1, q.2)) = .ok (ds, ρ') := e
  cases e1 : va ρ with
  | bad => rw [e1] at e'; cases e'
  | exc c => rw [e1] at e'; cases e'
  | ok p1 =>
    rw [e1] at e'
    have e2' : ((vs p1.2).bind fun q => .ok (p1.1 :: q.1, q.2)) = .ok (ds, ρ') := e'
    cases e2 : vs p1.2 with
    | bad => rw [e2] at e2'; cases e2'
    | exc c => rw [e2] at e2'; cases e2'
    | ok q1 =>
      rw [e2] at e2'
      have e3 : (Res.ok (p1.1 :: q1.1, q1.2) : Res (List D × En)) = .ok (ds, ρ') := e2'
      cases e3
      simp [h _ _ _ e2]
theorem m_call0 {f : List D → Res D} (G : FnOk X.prog X.w X.K X.mg X.base (L2.CX X.prog X.w) j fa fd ps (spV X.K X.mg 0 f)) (c : Ok X C k) (hj : j ≤ k) (hm : X.mg x = some (.ref fa)) (hk : PySem.W.keepIn X.K (.ref fa) = true) (hb : Binds X.K fd ps []) (hg : Gl X x := by rfl) (hdb : (x == ("__debug__" : Str)) = false := by decide) : PE X (.Call (.Name x p) [] [] pos) (tM X.K C (eCall f (pure []))) :=
  pe_imp (pe_call0 G (c.room.mono hj) hg hm hk hb .nil c.pass hdb) fun σ H Q ⟨B, F, ρ, S, q⟩ => by
    show spV X.K X.mg 0 f [] H Q (EX X.mg C)
    exact spV_of S (ds := []) rfl rfl q
/-- a def that hands back a list, to be one's own -/
def eCallO (f : List D → Res (List D)) (ms : M (List D)) : M (List D) := ms >>= fun ds => M.lift (match f ds with | .ok es => .ok es | _ => .bad)
theorem m_callO {f : List D → Res (List D)} (G : FnOk X.prog X.w X.K X.mg X.base (L2.CX X.prog X.w) j fa fd ps (spO X.K n f)) (c : Ok X C k) (hj : j ≤ k) (hm : X.mg x = some (.ref fa)) (hk : PySem.W.keepIn X.K (.ref fa) = true) (hb : Binds X.K fd ps []) (ha : PA X (a :: es) (tA X.K C ms)) (hg : Gl X x := by rfl) (hdb : (x == ("__debug__" : Str)) = false := by decide)
    (he : starEach (a :: es) X.env = (false, eval a X.env) :: starEach es X.env := by rfl) (hpl : (backTo pos (starEach es X.env)).any (·.1) = false := by rfl) (hln : ∀ ρ ds ρ', ms ρ = .ok (ds, ρ') → ds.length = n) : PE X (.Call (.Name x p) (a :: es) [] pos) (tO X.K C (eCallO f ms)) :=
  pe_imp (pe_call G (c.room.mono hj) hg hm hk hb .nil c.pass ha hdb he hpl) fun σ H Q ⟨B, F, ρ, S, q⟩ => by
    have q1 := q.bind
    cases e : ms ρ with
    | bad => rw [e] at q1; exact q1.elim
    | exc cc =>
      refine ⟨B, F, ρ, S, ?_⟩
      rw [e] at q1 ⊢
      exact q1
    | ok pr =>
      obtain ⟨ds, ρ1⟩ := pr
      refine ⟨B, F, ρ, S, ?_⟩
      rw [e] at q1 ⊢
      exact fun vs F1 H1 s1 S1 r1 => by
        show spO X.K n f (vs ++ []) H1 Q (EX X.mg C)
        rw [List.append_nil]
        refine ⟨ds, F1, S1.fr, r1, hln ρ ds ρ1 e, ?_⟩
        have q2 : RX C B (PO X.K C B σ F Q) (M.lift (match f ds with | .ok es => .ok es | _ => .bad) ρ1) := q1
        cases ef : f ds with
        | ok es =>
          rw [ef] at q2
          refine fun p xs F' H' l fp hp hp' z r => q2 p xs F' H' (s1.trans l.1) (S1.grow l.2.2.1 l.1 l.2.1 l.2.2.2) fp (S1.fresh hp).2 (fun i o => ?_) hp' z r
          obtain ⟨u, hu⟩ := own_there S1 o
          rw [hp] at hu; cases hu
        | exc c => rw [ef] at q2; exact q2
        | bad => rw [ef] at q2; exact q2
/-- a def that changes the list in the slot i -/
def callO (i : Nat) (f : List D → List D → Res (D × List D)) (es : List D) : M D := fun ρ => match ρ[i]? with
  | some (.own ds) => match f ds es with
    | .ok (d, ds') => .ok (d, ρ.set i (.own ds'))
    | _ => .bad
  | _ => .bad
def eCallR (i : Nat) (f : List D → List D → Res (D × List D)) (ms : M (List D)) : M D := isO i >>= fun _ => ms >>= fun es => callO i f es
theorem upd_self {H : Hp} {p : Addr} {o u : HO} (h : H p = some o) : upd (upd H p u) p o = H := by
  rw [upd_upd]
  funext a
  unfold upd
  split
  · rename_i e; rw [e, h]
  · rfl
theorem m_callR {f : List D → List D → Res (D × List D)} (i : Nat) (G : FnOk X.prog X.w X.K X.mg X.base (L2.CX X.prog X.w) j fa fd ps (spR X.K n f)) (c : Ok X C k) (hj : j ≤ k) (hm : X.mg x = some (.ref fa)) (hk : PySem.W.keepIn X.K (.ref fa) = true) (hb : Binds X.K fd ps []) (ha : PA X es (tA X.K C ms)) (hN : X.N[i]? = some y := by rfl) (hv : Vis X.env.scope y := by first | exact Or.inl rfl | exact Or.inr (Or.inl rfl) | exact Or.inr (Or.inr rfl)) (hdy : (y == ("__debug__" : Str)) = false := by decide)
    (hcd : (y == ("__classdict__" : Str)) = false := by decide) (hg : Gl X x := by rfl) (hdb : (x == ("__debug__" : Str)) = false := by decide)
    (he : starEach (.Name y p2 :: es) X.env = (false, eval (.Name y p2) X.env) :: starEach es X.env := by rfl) (hpl : (backTo pos (starEach es X.env)).any (·.1) = false := by rfl) (hln : ∀ ρ ds ρ', ms ρ = .ok (ds, ρ') → ds.length = n) : PE X (.Call (.Name x p) (.Name y p2 :: es) [] pos) (tM X.K C (eCallR i f ms)) :=
  pe_imp (pe_call G (c.room.mono hj) hg hm hk hb .nil c.pass (pa_cons (pe_var hN hv hdy hcd) ha he) hdb he hpl) fun σ H Q ⟨B, F, ρ, S, q⟩ => by
    obtain ⟨⟨ds0, e0⟩, q⟩ := isO_read q
    obtain ⟨p0, ev, _⟩ := own_at S e0
    refine ⟨_, ev, ?_⟩
    have q1 := q.bind
    cases e : ms ρ with
    | bad => rw [e] at q1; exact q1.elim
    | exc cc =>
      refine ⟨B, F, ρ, S, ?_⟩
      rw [e] at q1 ⊢
      exact q1
    | ok pr =>
      obtain ⟨es', ρ1⟩ := pr
      refine ⟨B, F, ρ, S, ?_⟩
      rw [e] at q1 ⊢
      exact fun vs F1 H1 s1 S1 r1 => by
        show spR X.K n f ((.ref p0 :: vs) ++ []) H1 Q (EX X.mg C)
        rw [List.append_nil]
        have q2 : RX C B (PD X.K C B σ F Q) (callO i f es' ρ1) := q1
        unfold callO at q2
        cases e1 : ρ1[i]? with
        | none => rw [e1] at q2; exact q2.elim
        | some sl =>
          rw [e1] at q2
          cases sl with
          | own ds =>
            obtain ⟨p1, xs, ev1, hp, zx, r, fp, kk⟩ := S1.updOwn e1
            rw [ev] at ev1; cases ev1
            refine ⟨p0, vs, ds, es', F1, xs, rfl, S1.fr, fp, hp, zx, r, r1, hln ρ es' ρ1 e, ?_⟩
            simp only at q2
            cases ef : f ds es' with
            | exc c => rw [ef] at q2; exact q2.elim
            | bad => rw [ef] at q2; exact q2.elim
            | ok pd =>
              obtain ⟨d, ds'⟩ := pd
              rw [ef] at q2
              refine fun v F' H' xs' sf fr kp nf hp' z' r' rv => ?_
              have fp' : F' p0 = none := nf _ _ hp fp
              have sh : Same H1 (upd H' p0 (.lst xs)) := fun a o ea => by
                by_cases hq : a = p0
                · subst hq; rw [hp] at ea; rw [upd_same]; exact ea
                · rw [upd_ne hq]; exact kp a o ea hq
              have S2 : SR X.K C B F' σ (upd H' p0 (.lst xs)) ρ1 := S1.grow sh sf (fun a o ea => by rw [upd_ne (ne_of_none ea fp')]; exact fr _ _ ea) nf
              have S3 := kk S2 upd_same z' r'
              rw [upd_self hp'] at S3
              exact q2 v F' H' (s1.trans sf) S3 rv
          | _ => exact q2.elim
end
/-! ### bodies -/
def startE (n : Nat) (ds : List D) : En := ds.map .val ++ List.replicate (n - ds.length) .emp
/-- what a body is worth -/
def runB (n : Nat) (m : M Fl) (ds : List D) : Res D := match m (startE n ds) with
  | .ok (.rt d, _) => .ok d
  | .ok (.nx, _) => .ok .none
  | .exc c => .exc c
  | _ => .bad
abbrev FnP (K : PySem.W.Frag) (x : Str) (st : Stmt) (f : Addr) (fd : FuncData) : Prop := FunD K x x (defArgs st) (defBody st) (defScope st) [] [] f fd
section
variable {P : Program} {w : World} {K : PySem.W.Frag} {mg : Str → Option Value} {base : Heap} {x : Str} {st : Stmt} {fa : Addr} {fd : FuncData} {N ps : List Str} {k n : Nat}
/-- the context of the body -/
abbrev bodyX (P : Program) (w : World) (K : PySem.W.Frag) (mg : Str → Option Value) (base : Heap) (N : List Str) (x : Str) (st : Stmt) (fa : Addr) (cdv : Value) (A : Around) (outer : List PySem.Env) (s : Shared) (H : Hp) (E : XK) : Cx :=
  cxOf (L2.CX P w) P w K mg base N x (defScope st) fa cdv A outer s H E
def bodyC (rf : Option Addr) (mg : Str → Option Value) (E : XK) : SC := ⟨rf, fun c H' => ∀ Cc, mg c = some (.ref Cc) → E (.ref Cc) none H'⟩
theorem body_takes {cdv : Value} {A : Around} {outer : List PySem.Env} {s : Shared} {H : Hp} {E : XK} : Takes (bodyX P w K mg base N x st fa cdv A outer s H E) (fun cls d _ H => E cls d H) := takes_of rfl rfl rfl rfl
theorem body_ok {cdv : Value} {A : Around} {outer : List PySem.Env} {s : Shared} {H : Hp} {E : XK} {rf : Option Addr} (S : FnScope N ps (defScope st)) (hr : Room k (A.deeper (envOfC x (defScope st) s.heap.objs.size fa cdv))) :
    Ok (bodyX P w K mg base N x st fa cdv A outer s H E) (bodyC rf mg E) k := ⟨rfl, S.nd, hr, fun pins σ H s' e s'' I q => by
  refine passes_call (W := fun cls d _ H => E cls d H) body_takes (fun cls d σ H h => ?_) pins σ H s' e s'' I q
  obtain ⟨rfl, c, Cc, rfl, hc, he⟩ := h
  exact he Cc hc, passes_of rfl⟩
theorem start_at {vs : List V} {ds : List D} {N : List Str} (h : ds.length = vs.length) {i : Nat} {s : Sl} {v : Option V} (e1 : (startE N.length ds)[i]? = some s) (e2 : (start N vs)[i]? = some v) : (s = .emp) ∨ ∃ d x, ds[i]? = some d ∧ vs[i]? = some x ∧ s = .val d ∧ v = some x := by
  unfold startE at e1
  unfold L2.start at e2
  by_cases hi : i < ds.length
  · rw [List.getElem?_append_left (by simpa using hi), List.getElem?_map] at e1
    rw [List.getElem?_append_left (by simp; omega), List.getElem?_map] at e2
    obtain ⟨d, ed⟩ : ∃ d, ds[i]? = some d := ⟨ds[i], by simp [hi]⟩
    obtain ⟨y, ey⟩ : ∃ d, vs[i]? = some d := ⟨vs[i]'(by omega), by simp⟩
    rw [ed] at e1
    rw [ey] at e2
    cases e1
    cases e2
    exact .inr ⟨d, y, ed, ey, rfl, rfl⟩
  · rw [List.getElem?_append_right (by simpa using hi), List.getElem?_replicate] at e1
    split at e1
    · exact .inl (Option.some.inj e1).symm
    · cases e1
theorem start_len {vs : List V} {ds : List D} {N : List Str} (h : ds.length = vs.length) : (start N vs).length = (startE N.length ds).length := by
  unfold L2.start startE
  simp [h]
/-- THE RULE for a def that takes values and hands back a value -/
theorem fn_V {m : M Fl} (F : FnP K x st fa fd) (S : FnScope N ps (defScope st))
    (hbody : ∀ (cdv : Value) (A : Around) (outer : List PySem.Env) (s : Shared) (H : Hp) (E : XK), Ok (bodyX P w K mg base N x st fa cdv A outer s H E) (bodyC none mg E) k → PSs (bodyX P w K mg base N x st fa cdv A outer s H E) (defBody st) (tS K (bodyC none mg E) m)) :
    FnOk P w K mg base (L2.CX P w) (k + 1) fa fd ps (spV K mg ps.length (runB N.length m)) := by
  refine F.ok S (fun vs H Q E h => ?_) (fun cdv A outer s H vs Q E hr h => ⟨_, hbody cdv A outer s H E (body_ok S hr), ?_⟩)
  · obtain ⟨ds, F0, _, r, hn, _⟩ := h
    rw [← r.len, hn]
  · obtain ⟨ds, F0, sf, r, hn, h⟩ := h
    have hl := r.len
    refine ⟨⟨H, F0⟩, F0, startE N.length ds, ⟨sf, fun a u _ f => f, fun a o e _ => e, start_len hl, fun i s v e1 e2 => ?_, fun i j p h1 h2 => ?_, fun p z => nomatch z⟩, ?_⟩
    · rcases start_at hl e1 e2 with rfl | ⟨d, y, e3, e4, rfl, rfl⟩
      · trivial
      · obtain ⟨y', e5, ry⟩ := r.get' e3
        rw [e4] at e5; cases e5
        exact ⟨y, rfl, ry⟩
    · obtain ⟨s1, e1, o1, e2⟩ := h1
      rcases start_at hl e1 e2 with rfl | ⟨d, y, e3, e4, rfl, _⟩
      · cases o1
      · cases o1
    · unfold runB at h
      cases e : m (startE N.length ds) with
      | bad => rw [e] at h; exact h
      | exc c =>
        rw [e] at h
        exact fun H' kp Cc hc => h H' Cc (fun a o q => kp a o q (fun z => nomatch z)) hc
      | ok pr =>
        obtain ⟨f, ρ'⟩ := pr
        rw [e] at h
        have left : ∀ {F' H' σ'}, Same F0 F' → SR K (bodyC none mg E) ⟨H, F0⟩ F' σ' H' ρ' → Left F0 H F' H' := fun {F' H' σ'} s S => ⟨s, S.fr, fun a o q => S.kp a o q (fun z => nomatch z), fun q u e n => S.nf q u e n⟩
        cases f with
        | nx => exact fun σ' F' H' s S => h .non F' H' (left s S) rfl
        | rt d => exact fun v σ' F' H' s S rv => h v F' H' (left s S) rv
        | ro d => exact h.elim
        | bk => exact h.elim
        | ct => exact h.elim
end

section
variable {P : Program} {w : World} {K : PySem.W.Frag} {mg : Str → Option Value} {base : Heap} {x : Str} {st : Stmt} {fa : Addr} {fd : FuncData} {N ps : List Str} {k n : Nat}
/-- what a body is worth that hands back a new list -/
def runO (n : Nat) (m : M Fl) (ds : List D) : Res (List D) := match m (startE n ds) with
  | .ok (.ro d, _) => .ok d
  | _ => .bad
theorem fn_O {m : M Fl} (F : FnP K x st fa fd) (S : FnScope N ps (defScope st))
    (hbody : ∀ (cdv : Value) (A : Around) (outer : List PySem.Env) (s : Shared) (H : Hp) (E : XK), Ok (bodyX P w K mg base N x st fa cdv A outer s H E) (bodyC none mg E) k → PSs (bodyX P w K mg base N x st fa cdv A outer s H E) (defBody st) (tS K (bodyC none mg E) m)) :
    FnOk P w K mg base (L2.CX P w) (k + 1) fa fd ps (spO K ps.length (runO N.length m)) := by
  refine F.ok S (fun vs H Q E h => ?_) (fun cdv A outer s H vs Q E hr h => ⟨_, hbody cdv A outer s H E (body_ok S hr), ?_⟩)
  · obtain ⟨ds, F0, _, r, hn, _⟩ := h
    rw [← r.len, hn]
  · obtain ⟨ds, F0, sf, r, hn, h⟩ := h
    have hl := r.len
    refine ⟨⟨H, F0⟩, F0, startE N.length ds, ⟨sf, fun a u _ f => f, fun a o e _ => e, start_len hl, fun i s v e1 e2 => ?_, fun i j p h1 h2 => ?_, fun p z => nomatch z⟩, ?_⟩
    · rcases start_at hl e1 e2 with rfl | ⟨d, y, e3, e4, rfl, rfl⟩
      · trivial
      · obtain ⟨y', e5, ry⟩ := r.get' e3
        rw [e4] at e5; cases e5
        exact ⟨y, rfl, ry⟩
    · obtain ⟨s1, e1, o1, e2⟩ := h1
      rcases start_at hl e1 e2 with rfl | ⟨d, y, e3, e4, rfl, _⟩
      · cases o1
      · cases o1
    · unfold runO at h
      cases e : m (startE N.length ds) with
      | bad => rw [e] at h; exact h
      | exc c => rw [e] at h; exact h.elim
      | ok pr =>
        obtain ⟨f, ρ'⟩ := pr
        rw [e] at h
        cases f with
        | ro d => exact fun p xs σ' F' H' s S fp bp hp z rv => h p xs F' H' ⟨s, S.fr, fun a o q => S.kp a o q (fun z => nomatch z), fun q u e n => S.nf q u e n⟩ fp bp hp z rv
        | nx => exact h.elim
        | rt d => exact h.elim
        | bk => exact h.elim
        | ct => exact h.elim
def startR (n : Nat) (ds es : List D) : En := .own ds :: (es.map .val ++ List.replicate (n - 1 - es.length) .emp)
def runR (n : Nat) (m : M Fl) (ds es : List D) : Res (D × List D) := match m (startR n ds es) with
  | .ok (.rt d, ρ) => match (ρ[0]? : Option Sl) with
    | some (.own ds') => .ok (d, ds')
    | _ => .bad
  | .ok (.nx, ρ) => match (ρ[0]? : Option Sl) with
    | some (.own ds') => .ok (.none, ds')
    | _ => .bad
  | _ => .bad
theorem startR_at {vs : List V} {ds es : List D} {N : List Str} {p : Addr} (h : es.length = vs.length) {i : Nat} {s : Sl} {v : Option V} (e1 : (startR N.length ds es)[i]? = some s) (e2 : (start N (.ref p :: vs))[i]? = some v) : (i = 0 ∧ s = .own ds ∧ v = some (.ref p)) ∨ (s = .emp) ∨ ∃ d x, es[i - 1]? = some d ∧ vs[i - 1]? = some x ∧ s = .val d ∧ v = some x := by
  cases i with
  | zero =>
    unfold startR at e1
    unfold L2.start at e2
    simp at e1 e2
    exact .inl ⟨rfl, e1.symm, e2.symm⟩
  | succ i =>
    right
    unfold startR at e1
    unfold L2.start at e2
    simp only [List.getElem?_cons_succ, List.map_cons, List.cons_append, Nat.add_sub_cancel] at e1 e2 ⊢
    by_cases hi : i < es.length
    · rw [List.getElem?_append_left (by simpa using hi), List.getElem?_map] at e1
      rw [List.getElem?_append_left (by simp; omega), List.getElem?_map] at e2
      obtain ⟨d, ed⟩ : ∃ d, es[i]? = some d := ⟨es[i], by simp [hi]⟩
      obtain ⟨y, ey⟩ : ∃ d, vs[i]? = some d := ⟨vs[i]'(by omega), by simp⟩
      rw [ed] at e1
      rw [ey] at e2
      cases e1
      cases e2
      exact .inr ⟨d, y, ed, ey, rfl, rfl⟩
    · rw [List.getElem?_append_right (by simpa using hi), List.getElem?_replicate] at e1
      split at e1
      · exact .inl (Option.some.inj e1).symm
      · cases e1
/-- THE RULE for a def whose first argument is a list of the caller's that it changes -/
theorem fn_R {m : M Fl} (F : FnP K x st fa fd) (S : FnScope N ps (defScope st)) (hps : ps.length = n + 1)
    (hbody : ∀ (cdv : Value) (A : Around) (outer : List PySem.Env) (s : Shared) (H : Hp) (E : XK) (p : Addr), Ok (bodyX P w K mg base N x st fa cdv A outer s H E) (bodyC (some p) mg E) k → PSs (bodyX P w K mg base N x st fa cdv A outer s H E) (defBody st) (tS K (bodyC (some p) mg E) m)) :
    FnOk P w K mg base (L2.CX P w) (k + 1) fa fd ps (spR K n (runR N.length m)) := by
  refine F.ok S (fun vs H Q E h => ?_) (fun cdv A outer s H vs Q E hr h => ?_)
  · obtain ⟨p, ws, ds, es, F0, xs, rfl, _, _, _, _, _, r, hn, _⟩ := h
    have := r.len
    simp; omega
  · obtain ⟨p, ws, ds, es, F0, xs, rfl, sf, fp, hp, z, r, rs, hn, h⟩ := h
    refine ⟨_, hbody cdv A outer s H E p (body_ok S hr), ?_⟩
    have hl := rs.len
    have hN : n + 1 ≤ N.length := by
      have := congrArg List.length S.pre
      rw [List.length_take] at this
      omega
    refine ⟨⟨H, F0⟩, F0, startR N.length ds es, ⟨sf, fun a u _ f => f, fun a o e _ => e, ?_, fun i s v e1 e2 => ?_, fun i j q h1 h2 => ?_, fun q z => ?_⟩, ?_⟩
    · unfold L2.start startR
      simp
      omega
    · rcases startR_at hl e1 e2 with ⟨rfl, rfl, rfl⟩ | rfl | ⟨d, y, e3, e4, rfl, rfl⟩
      · exact ⟨p, xs, rfl, hp, r, ⟨fp, .inr rfl⟩, z⟩
      · trivial
      · obtain ⟨y', e5, ry⟩ := rs.get' e3
        rw [e4] at e5; cases e5
        exact ⟨y, rfl, ry⟩
    · obtain ⟨s1, e1, o1, e2⟩ := h1
      obtain ⟨s2, e3, o2, e4⟩ := h2
      have a1 : i = 0 := by
        rcases startR_at hl e1 e2 with ⟨rfl, _, _⟩ | rfl | ⟨d, y, _, _, rfl, _⟩
        · rfl
        · cases o1
        · cases o1
      have a2 : j = 0 := by
        rcases startR_at hl e3 e4 with ⟨rfl, _, _⟩ | rfl | ⟨d, y, _, _, rfl, _⟩
        · rfl
        · cases o2
        · cases o2
      rw [a1, a2]
    · have z' : some p = some q := z
      cases z'
      exact ⟨rfl, ds, rfl⟩
    · unfold runR at h
      cases e : m (startR N.length ds es) with
      | bad => rw [e] at h; exact h
      | exc c => rw [e] at h; exact h.elim
      | ok pr =>
        obtain ⟨f, ρ'⟩ := pr
        rw [e] at h
        have fin : ∀ {d : D} {ds' : List D}, ρ'[0]? = some (.own ds') → (∀ v F' H' xs', Same F0 F' → Same F' H' → (∀ a o, H a = some o → a ≠ p → H' a = some o) → (∀ q u, H q = some u → F0 q = none → F' q = none) → H' p = some (.lst xs') → xs'.length ≤ sizeLine → RpAll K F' ds' xs' → Rp K F' d v → Q v H') →
            ∀ v σ' F' H', Same F0 F' → SR K (bodyC (some p) mg E) ⟨H, F0⟩ F' σ' H' ρ' → Rp K F' d v → Q v H' := fun {d ds'} e0 k v σ' F' H' s S rv => by
          obtain ⟨e1, ds2, e2⟩ := S.rf p rfl
          rw [e0] at e2; cases e2
          obtain ⟨q, xs', e3, e4, r', ⟨f', _⟩, z'⟩ := S.sl 0 _ _ e0 e1
          cases e3
          exact k v F' H' xs' s S.fr (fun a o ea hne => S.kp a o ea (fun z => hne (Option.some.inj z).symm)) (fun q u e n => S.nf q u e n) e4 z' r' rv
        cases f with
        | nx =>
          simp only at h
          cases e0 : ρ'[0]? with
          | none => rw [e0] at h; exact h.elim
          | some s =>
            rw [e0] at h
            cases s with
            | own ds' => exact fun σ' F' H' s S => fin e0 h .non σ' F' H' s S rfl
            | _ => exact h.elim
        | rt d =>
          simp only at h
          cases e0 : ρ'[0]? with
          | none => rw [e0] at h; exact h.elim
          | some s =>
            rw [e0] at h
            cases s with
            | own ds' => exact fin e0 h
            | _ => exact h.elim
        | ro d => exact h.elim
        | bk => exact h.elim
        | ct => exact h.elim
end
end VS

set_option Elab.async false
set_option linter.all false
set_option maxRecDepth 100000
set_option maxHeartbeats 4000000
namespace PySem
set_option maxHeartbeats 1000000 in
theorem meets_enumerate_newB1 {v : Value} {o : Obj} {H : Heap → Prop} (B : Begins v o H) :
    Meets (Builtin.«enumerate.__new__» ⟨[.type "enumerate", v], []⟩) (fun _ R s => H s.heap ∧
      R (.ok (.ret (.ref (s.heap.push o).objs.size))) { s with heap := (s.heap.push o).push { cls := .type "enumerate", data := .fields #[.none, .bool false, .ref s.heap.objs.size, rawInt 0, .none, .none] } }) :=
  .of_wp fun prog w A R s h => by
    obtain ⟨hp, g, d, tk, os⟩ := s; obtain ⟨h1, h⟩ := h
    have hsub := sub_enumerate
    have q1 : ∀ {A' : Around} {E : Value → Shared → Prop} {Q : Value → Shared → Prop}, Q (.ref hp.objs.size) ⟨hp.push o, g, d, tk, os⟩ → wpAny (model prog w) A' (pyIter v) Q E ⟨hp, g, d, tk, os⟩ :=
      fun q => B.iter prog w _ _ ⟨hp, g, d, tk, os⟩ _ h1 q
    wp_walk using q1
    refine wpAny_stack_any fun st => wpAny_pure ?_
    split
    · rename_i c _ _ _ _ _
      cases (c == Value.type "enumerate")
      · wp_walk using q1
        exact ⟨_, rfl, h⟩
      · wp_walk using q1
        exact ⟨_, rfl, h⟩
    · wp_walk using q1
      exact ⟨_, rfl, h⟩
section
variable {prog : Program} {w : World} {A : Around} {E : Value → Shared → Prop} {s : Shared}
theorem enum_begins1 {v : Value} {o : Obj} {H : Heap → Prop} {Q : Value → Shared → Prop} (B : Begins v o H) (h1 : H s.heap)
    (h : ∀ h', IsEnum h' (s.heap.objs.size + 1) s.heap.objs.size 0 .none → h'.get? s.heap.objs.size = some o → h'.objs.size = s.heap.objs.size + 2 →
      (∀ b o, s.heap.get? b = some o → h'.get? b = some o) → Q (.ref (s.heap.objs.size + 1)) { s with heap := h' }) :
    wpAny (model prog w) A (call (.type "enumerate") [v]) Q E s := by
  refine callType_new F.called_enumerate (by decide) (F.typeCall_enumerate_1 _) (F.newCall_enumerate_1 _) (fun obj => F.args_object_init_2 obj _) F.entry_enumerate_new
    (meets_enumerate_newB1 B) ⟨h1, ?_⟩
  have hz : (s.heap.push o).objs.size = s.heap.objs.size + 1 := Heap.size_push ..
  show _ ∧ _
  rw [hz]
  have he : IsEnum ((s.heap.push o).push { cls := .type "enumerate", data := .fields #[.none, .bool false, .ref s.heap.objs.size, rawInt 0, .none, .none] }) (s.heap.objs.size + 1) s.heap.objs.size 0 .none := by
    have := Heap.get?_push_size (s.heap.push o) (o := { cls := .type "enumerate", data := .fields #[.none, .bool false, .ref s.heap.objs.size, rawInt 0, .none, .none] }) rfl
    rw [hz] at this; exact this
  refine ⟨⟨_, he, rfl⟩, h _ he (Heap.get?_push_of_some _ (Heap.get?_push_size _ B.free)) (by rw [Heap.size_push, hz]) fun b o x => Heap.get?_push_of_some _ (Heap.get?_push_of_some _ x)⟩
theorem enum_doneL {e it a : Addr} {items : Array Value} {i : Nat} {k old} {Q : Option Value → Shared → Prop} (hh : A.handled = none) (he : IsEnum s.heap e it k old) (hit : s.heap.IsListIter it a i) (hl : s.heap.IsList a items) (hi : items.size ≤ i)
    (h : ∀ h', Heap.ExtBut it s.heap h' → Q none { s with heap := h' }) : wpAny (model prog w) A (pyNext (.ref e)) Q E s := by
  have hT : s.TypeIs (.ref e) "enumerate" := ⟨_, he, rfl⟩
  exact wpAny_pyNext_enum_endD (n := i) (P := fun _ _ => False) (fp := [it, a]) (St := fun j h => j = i ∧ h.IsListIter it a i ∧ h.IsList a items)
    ⟨fun _ _ st => let ⟨o, ho, _⟩ := st.2.1; ⟨o, ho⟩, fun _ _ _ st hk => ⟨st.1, st.2.1.at fun o e => hk it (by simp) o e, st.2.2.at fun o e => hk a (by simp) o e⟩, fun j s Q E hj st _ => absurd hj (by rw [st.1]; exact Nat.lt_irrefl _), fun s Q E st hE => wpAny_nextOf_list_end hh st.2.1 st.2.2 (Array.getElem?_eq_none hi) hE⟩ he ⟨rfl, hit, hl⟩ h
theorem enum_doneT {e it a : Addr} {items : Array Value} {i : Nat} {k old} {Q : Option Value → Shared → Prop} (hh : A.handled = none) (he : IsEnum s.heap e it k old) (hit : s.heap.IsTupleIter it a i) (hl : s.heap.IsTuple a items) (hi : items.size ≤ i)
    (h : ∀ h', Heap.ExtBut it s.heap h' → Q none { s with heap := h' }) : wpAny (model prog w) A (pyNext (.ref e)) Q E s := by
  have hT : s.TypeIs (.ref e) "enumerate" := ⟨_, he, rfl⟩
  exact wpAny_pyNext_enum_endD (n := i) (P := fun _ _ => False) (fp := [it, a]) (St := fun j h => j = i ∧ h.IsTupleIter it a i ∧ h.IsTuple a items)
    ⟨fun _ _ st => let ⟨o, ho, _⟩ := st.2.1; ⟨o, ho⟩, fun _ _ _ st hk => ⟨st.1, st.2.1.at fun o e => hk it (by simp) o e, st.2.2.at fun o e => hk a (by simp) o e⟩, fun j s Q E hj st _ => absurd hj (by rw [st.1]; exact Nat.lt_irrefl _), fun s Q E st hE => wpAny_nextOf_tuple_end hh st.2.1 st.2.2 (Array.getElem?_eq_none hi) hE⟩ he ⟨rfl, hit, hl⟩ h
end
end PySem
namespace L2
open PySem PySem.Spec PyProof.Rows

/-- the list at a as it stands, each item in a new pair with its number from k0 on -/
def IteCL (K : PySem.W.Frag) (a : Addr) (k0 : Int) : It :=
  ⟨fun i H => ∃ (xs : List V) (x : V), SqL K H a xs ∧ xs[i]? = some x, fun i H v H' => ∃ T x, v = .ref T ∧ H T = none ∧ H' = upd H T (.tup [.int (k0 + (i : Nat)), x]) ∧ ∀ xs, SqL K H a xs → xs[i]? = some x, fun i H => ∃ xs : List V, SqL K H a xs ∧ xs.length ≤ i⟩
theorem turn_enumCL {P : Program} {w : World} {K : PySem.W.Frag} {elts : List Expr} {kk : Nat} {tpos : Pos} (a e it : Addr) (k0 : Int) :
    Turn P w K (.Tuple elts kk tpos) (IteCL K a k0) [e, it] e (fun i h => (∃ old, IsEnum h e it (k0 + ((i : Nat) : Int)) old) ∧ h.IsListIter it a i ∧ e ≠ it) where
  mem := by simp
  obj := fun i h st b hb => by
    obtain ⟨⟨old, he⟩, ⟨o, ho, hc, hd⟩, _⟩ := st
    have e' : b = e ∨ b = it := by simpa using hb
    rcases e' with z | z
    · rw [z]; exact ⟨_, he, fun v q => nomatch q⟩
    · rw [z]; exact ⟨o, ho, fun v q => by rw [hd] at q; cases q⟩
  keep := fun i h h' st k => let ⟨⟨old, he⟩, hi, hne⟩ := st; ⟨⟨old, k e (by simp) _ he⟩, hi.at fun o q => k it (by simp) o q, hne⟩
  item := by
    intro X hP hw hK hc i pins s σ H E I hf st hg
    subst hP hw hK
    obtain ⟨⟨old, he⟩, hit, hne⟩ := st
    obtain ⟨xs, x, hq, hx⟩ := hg
    obtain ⟨its, rv, p, hz⟩ := I.list hq
    have hLs : s.heap.IsList a its.toArray := p.isList
    obtain ⟨u, hu, ru⟩ := rv.get hx
    have hil : i < its.toArray.size := by
      have := (List.getElem?_eq_some_iff.mp hu).1
      simpa using this
    have hae : e ≠ a := fun z => by
      obtain ⟨o, ho, hcc, _⟩ := hLs
      rw [← z, he] at ho; cases ho; exact absurd (show Value.type "enumerate" = Value.type "list" from hcc) (by decide)
    have hai : a ≠ it := fun z => by
      obtain ⟨o, ho, hcc, _⟩ := hLs
      obtain ⟨o2, ho2, hcc2, _⟩ := hit
      rw [z, ho2] at ho; cases ho; rw [hcc2] at hcc; exact absurd hcc (by decide)
    have hel : e < s.heap.objs.size := Heap.lt_size he
    have hitl : it < s.heap.objs.size := by obtain ⟨_, q, _⟩ := hit; exact Heap.lt_size q
    refine wpAny_pyNext_enum_itemC (Draws.list (prog := X.prog) (w := X.w) (A := X.A.in1) (I.ok.hd hc) it a hai its.toArray) he ⟨hit, hLs⟩ hil hne (by simp [hne, hae]) fun x' h' tk hPx ho hit' hT hsz hk => ?_
    have hxu : x' = u := by
      have q : its.toArray[i]? = some x' := hPx
      rw [← Array.getElem?_toList] at q
      rw [hu] at q
      exact (Option.some.inj q).symm
    subst hxu
    refine ⟨_, rfl, wpAny_letOwnedTupleGo_enum (s := { s with heap := h', toks := tk + 1 }) ho fun h'' he' sb => ?_⟩
    have hT2 : h''.get? s.heap.objs.size = some { cls := .type "tuple", data := .seq #[.int (k0 + (i : Nat)) tk, x'] } := (sb.2 _ (Nat.ne_of_gt hel)).trans hT
    have new : ObjOk X.prog X.w (upd H s.heap.objs.size (.tup [.int (k0 + (i : Nat)), x])) h'' s.heap.objs.size (.tup [.int (k0 + (i : Nat)), x]) :=
      ⟨by show 2 ≤ sizeLine; decide, [.int (k0 + (i : Nat)) tk, x'], .cons ⟨_, rfl⟩ (.cons ru .nil), ⟨_, hT2, rfl, _, rfl⟩⟩
    have I1 : Inv X pins σ (upd H s.heap.objs.size (.tup [.int (k0 + (i : Nat)), x])) { s with heap := h'', toks := tk + 1 } :=
      I.turnedNew (ch := [e, it]) (fun b ob hb q => (sb.2 b (fun z => hb (by simp [z]))).trans (hk b ob (fun z => hb (by simp [z])) (fun z => hb (by simp [z])) q)) hf (Nat.le_refl _) new
    refine ⟨.ref s.heap.objs.size, _, I1, rfl, ⟨_, x, rfl, I.hok.fresh (Nat.le_refl _), rfl, fun ys hy => by rw [I.list_inj hy hq]; exact hx⟩, ⟨⟨x', ?_⟩, hit'.1.at fun o q => (sb.2 it (Ne.symm hne)).trans q, hne⟩, fun b hb => ?_⟩
    · have e1 : k0 + ((i + 1 : Nat) : Int) = k0 + (i : Int) + 1 := by omega
      rw [e1]; exact he'
    · have hb' : b < s.heap.objs.size := by
        have e' : b = e ∨ b = it := by simpa using hb
        rcases e' with z | z
        · rw [z]; exact hel
        · rw [z]; exact hitl
      rw [upd_ne (Nat.ne_of_lt hb')]
      exact (hf b hb).1
  done := by
    intro X hP hw hK hc i pins s σ H E I hf st hg
    subst hP hw hK
    obtain ⟨⟨old, he⟩, hit, hne⟩ := st
    obtain ⟨xs, hq, hx⟩ := hg
    obtain ⟨its, rv, p, hz⟩ := I.list hq
    have hLs : s.heap.IsList a its.toArray := p.isList
    obtain ⟨f0, f1, f2, f3, f4, f5⟩ := hf it (by simp)
    have hl := rv.length
    exact enum_doneL (I.ok.hd hc) he hit hLs (by simp; omega) (fun h' eb => ⟨rfl, I.turned (t' := s.toks) (fun b o hb q => eb b o hb q) f0 f1 f3 f4 f5⟩)
  self := fun A i s Q E st h => let ⟨⟨_, he⟩, _⟩ := st; wpAny_pyIter_enum he h

/-- the tuple at a as it stands, each item in a new pair with its number from k0 on -/
def IteCT (K : PySem.W.Frag) (a : Addr) (k0 : Int) : It :=
  ⟨fun i H => ∃ (xs : List V) (x : V), SqT K H a xs ∧ xs[i]? = some x, fun i H v H' => ∃ T x, v = .ref T ∧ H T = none ∧ H' = upd H T (.tup [.int (k0 + (i : Nat)), x]) ∧ ∀ xs, SqT K H a xs → xs[i]? = some x, fun i H => ∃ xs : List V, SqT K H a xs ∧ xs.length ≤ i⟩
theorem turn_enumCT {P : Program} {w : World} {K : PySem.W.Frag} {elts : List Expr} {kk : Nat} {tpos : Pos} (a e it : Addr) (k0 : Int) :
    Turn P w K (.Tuple elts kk tpos) (IteCT K a k0) [e, it] e (fun i h => (∃ old, IsEnum h e it (k0 + ((i : Nat) : Int)) old) ∧ h.IsTupleIter it a i ∧ e ≠ it) where
  mem := by simp
  obj := fun i h st b hb => by
    obtain ⟨⟨old, he⟩, ⟨o, ho, hc, hd⟩, _⟩ := st
    have e' : b = e ∨ b = it := by simpa using hb
    rcases e' with z | z
    · rw [z]; exact ⟨_, he, fun v q => nomatch q⟩
    · rw [z]; exact ⟨o, ho, fun v q => by rw [hd] at q; cases q⟩
  keep := fun i h h' st k => let ⟨⟨old, he⟩, hi, hne⟩ := st; ⟨⟨old, k e (by simp) _ he⟩, hi.at fun o q => k it (by simp) o q, hne⟩
  item := by
    intro X hP hw hK hc i pins s σ H E I hf st hg
    subst hP hw hK
    obtain ⟨⟨old, he⟩, hit, hne⟩ := st
    obtain ⟨xs, x, hq, hx⟩ := hg
    obtain ⟨its, rv, p, hz⟩ := I.tuple hq
    have hLs : s.heap.IsTuple a its.toArray := (show s.heap.IsTuple a its.toArray from p)
    obtain ⟨u, hu, ru⟩ := rv.get hx
    have hil : i < its.toArray.size := by
      have := (List.getElem?_eq_some_iff.mp hu).1
      simpa using this
    have hae : e ≠ a := fun z => by
      obtain ⟨o, ho, hcc, _⟩ := hLs
      rw [← z, he] at ho; cases ho; exact absurd (show Value.type "enumerate" = Value.type "tuple" from hcc) (by decide)
    have hai : a ≠ it := fun z => by
      obtain ⟨o, ho, hcc, _⟩ := hLs
      obtain ⟨o2, ho2, hcc2, _⟩ := hit
      rw [z, ho2] at ho; cases ho; rw [hcc2] at hcc; exact absurd hcc (by decide)
    have hel : e < s.heap.objs.size := Heap.lt_size he
    have hitl : it < s.heap.objs.size := by obtain ⟨_, q, _⟩ := hit; exact Heap.lt_size q
    refine wpAny_pyNext_enum_itemC (Draws.tuple (prog := X.prog) (w := X.w) (A := X.A.in1) (I.ok.hd hc) it a hai its.toArray) he ⟨hit, hLs⟩ hil hne (by simp [hne, hae]) fun x' h' tk hPx ho hit' hT hsz hk => ?_
    have hxu : x' = u := by
      have q : its.toArray[i]? = some x' := hPx
      rw [← Array.getElem?_toList] at q
      rw [hu] at q
      exact (Option.some.inj q).symm
    subst hxu
    refine ⟨_, rfl, wpAny_letOwnedTupleGo_enum (s := { s with heap := h', toks := tk + 1 }) ho fun h'' he' sb => ?_⟩
    have hT2 : h''.get? s.heap.objs.size = some { cls := .type "tuple", data := .seq #[.int (k0 + (i : Nat)) tk, x'] } := (sb.2 _ (Nat.ne_of_gt hel)).trans hT
    have new : ObjOk X.prog X.w (upd H s.heap.objs.size (.tup [.int (k0 + (i : Nat)), x])) h'' s.heap.objs.size (.tup [.int (k0 + (i : Nat)), x]) :=
      ⟨by show 2 ≤ sizeLine; decide, [.int (k0 + (i : Nat)) tk, x'], .cons ⟨_, rfl⟩ (.cons ru .nil), ⟨_, hT2, rfl, _, rfl⟩⟩
    have I1 : Inv X pins σ (upd H s.heap.objs.size (.tup [.int (k0 + (i : Nat)), x])) { s with heap := h'', toks := tk + 1 } :=
      I.turnedNew (ch := [e, it]) (fun b ob hb q => (sb.2 b (fun z => hb (by simp [z]))).trans (hk b ob (fun z => hb (by simp [z])) (fun z => hb (by simp [z])) q)) hf (Nat.le_refl _) new
    refine ⟨.ref s.heap.objs.size, _, I1, rfl, ⟨_, x, rfl, I.hok.fresh (Nat.le_refl _), rfl, fun ys hy => by rw [I.tuple_inj hy hq]; exact hx⟩, ⟨⟨x', ?_⟩, hit'.1.at fun o q => (sb.2 it (Ne.symm hne)).trans q, hne⟩, fun b hb => ?_⟩
    · have e1 : k0 + ((i + 1 : Nat) : Int) = k0 + (i : Int) + 1 := by omega
      rw [e1]; exact he'
    · have hb' : b < s.heap.objs.size := by
        have e' : b = e ∨ b = it := by simpa using hb
        rcases e' with z | z
        · rw [z]; exact hel
        · rw [z]; exact hitl
      rw [upd_ne (Nat.ne_of_lt hb')]
      exact (hf b hb).1
  done := by
    intro X hP hw hK hc i pins s σ H E I hf st hg
    subst hP hw hK
    obtain ⟨⟨old, he⟩, hit, hne⟩ := st
    obtain ⟨xs, hq, hx⟩ := hg
    obtain ⟨its, rv, p, hz⟩ := I.tuple hq
    have hLs : s.heap.IsTuple a its.toArray := (show s.heap.IsTuple a its.toArray from p)
    obtain ⟨f0, f1, f2, f3, f4, f5⟩ := hf it (by simp)
    have hl := rv.length
    exact enum_doneT (I.ok.hd hc) he hit hLs (by simp; omega) (fun h' eb => ⟨rfl, I.turned (t' := s.toks) (fun b o hb q => eb b o hb q) f0 f1 f3 f4 f5⟩)
  self := fun A i s Q E st h => let ⟨⟨_, he⟩, _⟩ := st; wpAny_pyIter_enum he h

theorem enum_startL {X : Cx} {pins : List (Addr × Obj)} {σ : L2.St} {H : Hp} {s : Shared} {R : It → Hp → Prop} {elts : List Expr} {kk : Nat} {tpos : Pos} {a : Addr} {xs : List V} {E : Value → Shared → Prop} {h' : Heap} {k : Int} (I : Inv X pins σ H s) (hq : SqL X.K H a xs)
    (he : IsEnum h' (s.heap.objs.size + 1) s.heap.objs.size k .none) (hit : h'.get? s.heap.objs.size = some { cls := .type "list_iterator", data := .fields #[.ref a, .int 0 0] }) (hk : ∀ b o, s.heap.get? b = some o → h'.get? b = some o) (q : R (IteCL X.K a k) H) :
    wpAny (model X.prog X.w) X.A (pyIter (.ref (s.heap.objs.size + 1))) (PIE X pins σ (.Tuple elts kk tpos) R) E { s with heap := h' } := by
  refine wpAny_pyIter_enum he ?_
  have I2 : Inv X pins σ H { s with heap := h' } := I.kept (t' := s.toks) hk
  refine ⟨s.heap.objs.size + 1, [s.heap.objs.size + 1, s.heap.objs.size], _, _, H, rfl, I2, turn_enumCL a (s.heap.objs.size + 1) s.heap.objs.size k, ⟨⟨.none, by simpa using he⟩, ⟨_, hit, rfl, rfl⟩, Nat.succ_ne_self _⟩, fun b hb => ?_, q⟩
  have e' : b = s.heap.objs.size + 1 ∨ b = s.heap.objs.size := by simpa using hb
  have hle : s.heap.objs.size ≤ b := by
    rcases e' with z | z
    · rw [z]; exact Nat.le_add_right _ _
    · rw [z]; exact Nat.le_refl _
  exact I.fpOk hle (I.hok.fresh hle)
theorem enum_startT {X : Cx} {pins : List (Addr × Obj)} {σ : L2.St} {H : Hp} {s : Shared} {R : It → Hp → Prop} {elts : List Expr} {kk : Nat} {tpos : Pos} {a : Addr} {xs : List V} {E : Value → Shared → Prop} {h' : Heap} {k : Int} (I : Inv X pins σ H s) (hq : SqT X.K H a xs)
    (he : IsEnum h' (s.heap.objs.size + 1) s.heap.objs.size k .none) (hit : h'.get? s.heap.objs.size = some { cls := .type "tuple_iterator", data := .fields #[.ref a, .int 0 0] }) (hk : ∀ b o, s.heap.get? b = some o → h'.get? b = some o) (q : R (IteCT X.K a k) H) :
    wpAny (model X.prog X.w) X.A (pyIter (.ref (s.heap.objs.size + 1))) (PIE X pins σ (.Tuple elts kk tpos) R) E { s with heap := h' } := by
  refine wpAny_pyIter_enum he ?_
  have I2 : Inv X pins σ H { s with heap := h' } := I.kept (t' := s.toks) hk
  refine ⟨s.heap.objs.size + 1, [s.heap.objs.size + 1, s.heap.objs.size], _, _, H, rfl, I2, turn_enumCT a (s.heap.objs.size + 1) s.heap.objs.size k, ⟨⟨.none, by simpa using he⟩, ⟨_, hit, rfl, rfl⟩, Nat.succ_ne_self _⟩, fun b hb => ?_, q⟩
  have e' : b = s.heap.objs.size + 1 ∨ b = s.heap.objs.size := by simpa using hb
  have hle : s.heap.objs.size ≤ b := by
    rcases e' with z | z
    · rw [z]; exact Nat.le_add_right _ _
    · rw [z]; exact Nat.le_refl _
  exact I.fpOk hle (I.hok.fresh hle)
def iEnumA (K : PySem.W.Frag) (k : Int) (tl : TE) : TI := fun σ H R => tl σ H fun x H1 => ∃ a xs, x = .ref a ∧ ((SqL K H1 a xs ∧ R (IteCL K a k) H1) ∨ (SqT K H1 a xs ∧ R (IteCT K a k) H1))
theorem pi_enumA {X : Cx} {e : Expr} {te : TE} {p pos tpos : Pos} {elts : List Expr} {kk : Nat} (hg : Gl X "enumerate") (hm : X.mg "enumerate" = none) (ha : PE X e te) (hs : starEach [e] X.env = (false, eval e X.env) :: starEach [] X.env := by rfl) :
    PI X (.Tuple elts kk tpos) (.Call (.Name "enumerate" p) [e] [] pos) (iEnumA X.K 0 te) := by
  refine ⟨fun pins s σ H R I h => ?_⟩
  refine Call_ (ld_blt I hg hm boot_enumerate (PyProof.Rows.callWith_type1 (one_arg ha I h (fun v s1 x H1 I1 r q1 => ?_) hs) hs))
  obtain ⟨a, xs, ex, q⟩ := q1
  subst ex
  cases r
  rcases q with ⟨hq, q⟩ | ⟨hq, q⟩
  · obtain ⟨its, rv, p', hz⟩ := I1.list hq
    exact enum_begins1 (begins_list a its.toArray) p'.isList fun h' he hit hsz hk => enum_startL I1 hq he hit hk q
  · obtain ⟨its, rv, p', hz⟩ := I1.tuple hq
    exact enum_begins1 (begins_tuple a its.toArray) (show s1.heap.IsTuple a its.toArray from p') fun h' he hit hsz hk => enum_startT I1 hq he hit hk q
end L2

set_option Elab.async false
set_option linter.all false
set_option maxRecDepth 100000
set_option maxHeartbeats 4000000
namespace L2
open PySem PySem.Spec PyProof.Rows
section
variable {M : Model} {A : Around} {E : Value → Shared → Prop} {s : Shared} {env : PySem.Env}
theorem callWith_type_kwB {pos : Pos} {T : String} {first : List Value} {args : List (Bool × Sem Value)} {keywords : List (Option Str × Sem Value)} {Q : Value → Shared → Prop}
    (hplain : args.any (·.1) = false) (hkw : keywords.any (·.1.isNone) = false)
    (h : wpAny M A (evalArgs (.type T) true args keywords) (fun a s₁ => wpAny M A (call (.type T) (first ++ a.pos) a.kw) Q E s₁) E s) :
    wpAny M A (callWith pos (.type T) first args keywords) Q E s := by
  unfold callWith
  refine wpAny_bind (wpAny_holding (wpAny_mono h (fun a s₁ h₁ => wpAny_bind (wpAny_standAt ?_)) fun _ _ x => x))
  simp only [hplain, hkw, Bool.or_false]
  refine wpAny_bind (wpAny_pure ?_)
  exact wpAny_bind (wpAny_mono h₁ (fun r s₂ hr => wpAny_bind (wpAny_holding (wpAny_point (wpAny_pure hr)))) fun _ _ x => x)
theorem callWith_typeK {pos : Pos} {T : String} {e : Expr} {rest : List Expr} {kws : List Keyword} {Q : Value → Shared → Prop}
    (h : wpAny M A (spliced (backTo pos (starEach (e :: rest) env))) (fun vs s₁ => wpAny M A (evalAll ((backToKw pos (keywordEach kws env)).map (·.2)))
      (fun kvs s₂ => wpAny M A (call (.type T) vs (((backToKw pos (keywordEach kws env)).filterMap (·.1)).zip kvs)) Q E s₂) E s₁) E s)
    (he : backTo pos (starEach (e :: rest) env) = (false, eval e env) :: backTo pos (starEach rest env) := by rfl)
    (hplain : (backTo pos (starEach (e :: rest) env)).any (·.1) = false := by rfl)
    (hall : (backToKw pos (keywordEach kws env)).all (·.1.isSome) = true := by rfl)
    (hkw : (backToKw pos (keywordEach kws env)).any (·.1.isNone) = false := by rfl) :
    wpAny M A (callWith pos (.type T) [] (backTo pos (starEach (e :: rest) env)) (backToKw pos (keywordEach kws env))) Q E s := by
  refine callWith_type_kwB hplain hkw ?_
  rw [he] at h ⊢
  exact evalArgs_kwB hall h
end
theorem pi_enumK {X : Cx} {e : Expr} {te : TE} {p pos tpos kp cp : Pos} {elts : List Expr} {kk cj : Nat} {i : Int} (h0 : -(2 ^ 63) ≤ i) (h1 : i < 2 ^ 63) (hg : Gl X "enumerate") (hm : X.mg "enumerate" = none) (ha : PE X e te) (hs : starEach [e] X.env = (false, eval e X.env) :: starEach [] X.env := by rfl) :
    PI X (.Tuple elts kk tpos) (.Call (.Name "enumerate" p) [e] [⟨some "start", .Constant (.int i) cj cp, kp⟩] pos) (iEnumA X.K i te) := by
  refine ⟨fun pins s σ H R I h => ?_⟩
  refine wpAny_Call_Name_kw (ld_blt I hg hm boot_enumerate ?_)
  refine callWith_typeK (one_arg ha I h (fun v s1 x H1 I1 r q1 => ?_) hs) (by rw [hs]; rfl) (by rw [hs]; rfl)
  have hk : PK X [⟨some "start", .Constant (.int i) cj cp, kp⟩] (tCons (tC (.int i)) tNil) := pk_cons pe_int pk_nil
  refine thn (hk.run pos pins s1 σ H1 (fun vs H2 => vs = [.int i] ∧ H2 = H1) I1 ⟨rfl, rfl⟩) fun us s2 ⟨vs, H2, I2, r2, e1, e2⟩ => ?_
  subst e1 e2
  cases r2 with
  | cons ri rr =>
    cases rr
    obtain ⟨t, rfl⟩ := ri
    obtain ⟨a, xs, ex, q⟩ := q1
    subst ex
    cases r
    rcases q with ⟨hq, q⟩ | ⟨hq, q⟩
    · obtain ⟨its, rv, p', hz⟩ := I2.list hq
      exact enum_begins_start (begins_list a its.toArray) p'.isList h0 h1 fun h' he hit hsz hk => enum_startL I2 hq he hit hk q
    · obtain ⟨its, rv, p', hz⟩ := I2.tuple hq
      exact enum_begins_start (begins_tuple a its.toArray) (show s2.heap.IsTuple a its.toArray from p') h0 h1 fun h' he hit hsz hk => enum_startT I2 hq he hit hk q
end L2
namespace VS
open PySem PySem.Spec PyProof.Rows L2
def enumD (k : Int) : List D → List D
  | [] => []
  | d :: ds => .tuple [.int k, d] :: enumD (k + 1) ds
theorem enumD_get : ∀ {ds : List D} {k : Int} {i : Nat}, (enumD k ds)[i]? = (ds[i]?).map fun d => .tuple [.int (k + i), d]
  | [], k, i => by simp [enumD]
  | d :: ds, k, 0 => by simp [enumD]
  | d :: ds, k, i + 1 => by
    simp only [enumD, List.getElem?_cons_succ]
    rw [enumD_get]
    congr 2
    funext d
    congr 3
    push_cast
    try omega
theorem enumD_len : ∀ {ds : List D} {k : Int}, (enumD k ds).length = ds.length
  | [], k => rfl
  | d :: ds, k => by simp [enumD, enumD_len]
def zipD : List D → List D → List D
  | a :: as, b :: bs => .tuple [a, b] :: zipD as bs
  | _, _ => []
theorem zipD_get : ∀ {as bs : List D} {i : Nat} {d : D}, (zipD as bs)[i]? = some d → ∃ a b, as[i]? = some a ∧ bs[i]? = some b ∧ d = .tuple [a, b]
  | [], _, i, d, h => by simp [zipD] at h
  | _ :: _, [], i, d, h => by simp [zipD] at h
  | a :: as, b :: bs, 0, d, h => by simp [zipD] at h; exact ⟨a, b, rfl, rfl, h.symm⟩
  | a :: as, b :: bs, i + 1, d, h => by simpa using zipD_get (as := as) (bs := bs) (i := i) (by simpa [zipD] using h)
theorem zipD_len : ∀ {as bs : List D}, (zipD as bs).length = min as.length bs.length
  | [], _ => by simp [zipD]
  | _ :: _, [] => by simp [zipD]
  | a :: as, b :: bs => by simp [zipD, zipD_len]
section
variable {X : Cx} {C : SC} {B : Bs} {a b c tg : Expr} {pos p p2 tpos cp kp : Pos} {va vb : M D} {elts : List Expr} {kk cj : Nat}
theorem two_le : 2 ≤ sizeLine := by decide
theorem walks_enumL {K : PySem.W.Frag} {F : Hp} {a : Addr} {xs : List V} {ds : List D} {k : Int} (h : Rd F a (.lst xs)) (r : RpAll K F ds xs) : Walks K (IteCL K a k) F (enumD k ds) := fun i H s => by
  have hq : SqL K H a xs := .inl (rd_same s h)
  refine ⟨fun d e => ?_, fun e => ⟨xs, hq, by rw [← r.len]; rw [enumD_len] at e; exact e⟩⟩
  rw [enumD_get] at e
  cases ed : ds[i]? with
  | none => rw [ed] at e; cases e
  | some d' =>
    rw [ed] at e
    cases e
    obtain ⟨v, ev, rv⟩ := r.get' ed
    refine ⟨⟨xs, v, hq, ev⟩, fun x H' ⟨T, y, e1, nT, e2, e3⟩ => .inr ⟨T, _, _, nT, e2, e1, rfl, two_le, ?_⟩⟩
    have e4 := e3 xs hq
    rw [ev] at e4
    cases e4
    exact .cons rfl (.cons rv .nil)
theorem walks_enumT {K : PySem.W.Frag} {F : Hp} {a : Addr} {xs : List V} {ds : List D} {k : Int} (h : F a = some (.tup xs)) (r : RpAll K F ds xs) : Walks K (IteCT K a k) F (enumD k ds) := fun i H s => by
  have hq : SqT K H a xs := .of (s _ _ h)
  refine ⟨fun d e => ?_, fun e => ⟨xs, hq, by rw [← r.len]; rw [enumD_len] at e; exact e⟩⟩
  rw [enumD_get] at e
  cases ed : ds[i]? with
  | none => rw [ed] at e; cases e
  | some d' =>
    rw [ed] at e
    cases e
    obtain ⟨v, ev, rv⟩ := r.get' ed
    refine ⟨⟨xs, v, hq, ev⟩, fun x H' ⟨T, y, e1, nT, e2, e3⟩ => .inr ⟨T, _, _, nT, e2, e1, rfl, two_le, ?_⟩⟩
    have e4 := e3 xs hq
    rw [ev] at e4
    cases e4
    exact .cons rfl (.cons rv .nil)
def gEnum (k : Int) : D → Res (List D)
  | .list xs => .ok (enumD k xs)
  | .tuple xs => .ok (enumD k xs)
  | _ => .bad
theorem enum_read {k : Int} {σ : L2.St} {H : Hp} {R : It → Hp → Prop} (q : tI X.K C (va >>= fun d => M.lift (gEnum k d)) σ H R) : iEnumA X.K k (tM X.K C va) σ H R := by
  obtain ⟨B, F, ρ, S, q⟩ := q
  refine tM.of S q.bind fun d ρ1 h1 v F1 H1 s1 S1 r1 => ?_
  cases d <;> try exact (RX.bad_elim h1 rfl).elim
  · obtain ⟨p, xs, rfl, fp, zx, r⟩ := r1
    exact ⟨p, xs, rfl, .inl ⟨.inl (rd_same S1.fr fp), h1 _ F1 H1 s1 S1 (walks_enumL fp r)⟩⟩
  · obtain ⟨p, xs, rfl, fp, zx, r⟩ := r1
    exact ⟨p, xs, rfl, .inr ⟨.of (S1.fr _ _ fp), h1 _ F1 H1 s1 S1 (walks_enumT fp r)⟩⟩
theorem mi_enum (hm : X.mg "enumerate" = none) (ha : PE X a (tM X.K C va)) (hg : Gl X "enumerate" := by rfl) (hs : starEach [a] X.env = (false, eval a X.env) :: starEach [] X.env := by rfl) : PI X (.Tuple elts kk tpos) (.Call (.Name "enumerate" p) [a] [] pos) (tI X.K C (va >>= fun d => M.lift (gEnum 0 d))) :=
  ⟨fun pins s σ H R I q => (pi_enumA hg hm ha hs).run pins s σ H R I (enum_read q)⟩
theorem mi_enumK {i : Int} (h0 : -(2 ^ 63) ≤ i) (h1 : i < 2 ^ 63) (hm : X.mg "enumerate" = none) (ha : PE X a (tM X.K C va)) (hg : Gl X "enumerate" := by rfl) (hs : starEach [a] X.env = (false, eval a X.env) :: starEach [] X.env := by rfl) : PI X (.Tuple elts kk tpos) (.Call (.Name "enumerate" p) [a] [⟨some "start", .Constant (.int i) cj cp, kp⟩] pos) (tI X.K C (va >>= fun d => M.lift (gEnum i d))) :=
  ⟨fun pins s σ H R I q => (pi_enumK h0 h1 hg hm ha hs).run pins s σ H R I (enum_read q)⟩
def gZip : D → D → Res (List D)
  | .list xs, .list ys => .ok (zipD xs ys)
  | .tuple xs, .tuple ys => .ok (zipD xs ys)
  | _, _ => .bad
theorem walks_zipL {K : PySem.W.Frag} {F : Hp} {a b : Addr} {xs ys : List V} {ds es : List D} (h : Rd F a (.lst xs)) (r : RpAll K F ds xs) (h' : Rd F b (.lst ys)) (r' : RpAll K F es ys) : Walks K (Itz K a b) F (zipD ds es) := fun i H s => by
  have hq : SqL K H a xs := .inl (rd_same s h)
  have hq' : SqL K H b ys := .inl (rd_same s h')
  refine ⟨fun d e => ?_, fun e => ⟨xs, ys, hq, hq', ?_⟩⟩
  · obtain ⟨d1, d2, e1, e2, rfl⟩ := zipD_get e
    obtain ⟨v, ev, rv⟩ := r.get' e1
    obtain ⟨u, eu, ru⟩ := r'.get' e2
    refine ⟨⟨xs, ys, v, u, hq, hq', ev, eu⟩, fun x H' ⟨T, y, z, e1, nT, e2, e3, e4⟩ => .inr ⟨T, _, _, nT, e2, e1, rfl, two_le, ?_⟩⟩
    have e5 := e3 xs hq
    have e6 := e4 ys hq'
    rw [ev] at e5
    rw [eu] at e6
    cases e5
    cases e6
    exact .cons rv (.cons ru .nil)
  · rw [zipD_len, r.len, r'.len] at e
    omega
theorem walks_zipT {K : PySem.W.Frag} {F : Hp} {a b : Addr} {xs ys : List V} {ds es : List D} (h : F a = some (.tup xs)) (r : RpAll K F ds xs) (h' : F b = some (.tup ys)) (r' : RpAll K F es ys) : Walks K (RZ.ItzT K a b) F (zipD ds es) := fun i H s => by
  have hq : SqT K H a xs := .of (s _ _ h)
  have hq' : SqT K H b ys := .of (s _ _ h')
  refine ⟨fun d e => ?_, fun e => ⟨xs, ys, hq, hq', ?_⟩⟩
  · obtain ⟨d1, d2, e1, e2, rfl⟩ := zipD_get e
    obtain ⟨v, ev, rv⟩ := r.get' e1
    obtain ⟨u, eu, ru⟩ := r'.get' e2
    refine ⟨⟨xs, ys, v, u, hq, hq', ev, eu⟩, fun x H' ⟨T, y, z, e1, nT, e2, e3, e4⟩ => .inr ⟨T, _, _, nT, e2, e1, rfl, two_le, ?_⟩⟩
    have e5 := e3 xs hq
    have e6 := e4 ys hq'
    rw [ev] at e5
    rw [eu] at e6
    cases e5
    cases e6
    exact .cons rv (.cons ru .nil)
  · rw [zipD_len, r.len, r'.len] at e
    omega
theorem mi_zip (hm : X.mg "zip" = none) (ha : PE X a (tM X.K C va)) (hb : PE X b (tM X.K C vb)) (hg : Gl X "zip" := by rfl) (hs1 : starEach [a, b] X.env = (false, eval a X.env) :: starEach [b] X.env := by rfl) (hs2 : starEach [b] X.env = (false, eval b X.env) :: starEach [] X.env := by rfl) : PI X (.Tuple elts kk tpos) (.Call (.Name "zip" p) [a, b] [] pos) (tI X.K C (va >>= fun d => vb >>= fun e => M.lift (gZip d e))) :=
  ⟨fun pins s σ H R I q => (RZ.pi_zipA hg hm (pa_cons ha (pa_cons hb pa_nil hs2) hs1) hs1 (by rw [hs2]; rfl)).run pins s σ H R I (by
    obtain ⟨B, F, ρ, S, q⟩ := q
    refine tM.of S q.bind fun d ρ1 h1 v F1 H1 s1 S1 r1 => ?_
    refine tM.of S1 h1.bind fun e ρ2 h2 u F2 H2 s2 S2 r2 => ?_
    have r1 := r1.mono s2
    cases d <;> try exact (RX.bad_elim h2 rfl).elim
    · cases e <;> try exact (RX.bad_elim h2 rfl).elim
      obtain ⟨p, xs, rfl, fp, zx, r⟩ := r1
      obtain ⟨p', ys, rfl, fp', zy, r'⟩ := r2
      exact ⟨p, p', xs, ys, rfl, .inl ⟨.inl (rd_same S2.fr fp), .inl (rd_same S2.fr fp'), h2 _ F2 H2 (s1.trans s2) S2 (walks_zipL fp r fp' r')⟩⟩
    · cases e <;> try exact (RX.bad_elim h2 rfl).elim
      obtain ⟨p, xs, rfl, fp, zx, r⟩ := r1
      obtain ⟨p', ys, rfl, fp', zy, r'⟩ := r2
      exact ⟨p, p', xs, ys, rfl, .inr ⟨.of (S2.fr _ _ fp), .of (S2.fr _ _ fp'), h2 _ F2 H2 (s1.trans s2) S2 (walks_zipT fp r fp' r')⟩⟩)⟩
end
end VS

set_option Elab.async false
set_option linter.all false
set_option maxRecDepth 100000
set_option maxHeartbeats 4000000
namespace L2
open PySem PySem.Spec PyProof.Rows
section
variable {X : Cx}
/-- x in l, l a list or a tuple of data -/
def rInE (K : PySem.W.Frag) (neg : Bool) : R2 := fun x y H Q => ∃ d ds, Dp K H x d ∧ (Dp K H y (.list ds) ∨ Dp K H y (.tuple ds)) ∧ SeqAt.shaped d = true ∧ SeqAt.shaped (.list ds) = true ∧ Q (.bl (if neg then !(ds.any fun z => PyData.eqv z d) else ds.any fun z => PyData.eqv z d)) H
theorem room_in {A : Around} {ds : List PyData} {d : PyData} (h : SeqAt.shaped d = true) (hu : A.units + 65 < cLine) : A.units + 1 + min (PyData.depthAll ds) d.depth < cLine := by
  have h1 := SeqAt.depth_of_shaped h
  omega
theorem op_inE (hu : X.A.units + 65 < cLine) : OpR X (compareOp .In) (rInE X.K false) := by
  intro pins s σ H x y v u Q I rx ry h
  obtain ⟨d, ds, hd, he, sd, se, q⟩ := h
  obtain ⟨as, r1⟩ := Dp.reads I d x v hd rx
  have cl : PyData.canLayAll0 ds = true := by simpa [PyData.canLay0] using SeqAt.canLay_of_shaped se
  rcases he with he | he
  · obtain ⟨bs, r2⟩ := Dp.reads I (.list ds) y u he ry
    exact SeqAt.in_list_reads r2 r1 cl (SeqAt.canLay_of_shaped sd) (room_in sd hu) ⟨.bl _, H, I, rfl, q⟩
  · obtain ⟨bs, r2⟩ := Dp.reads I (.tuple ds) y u he ry
    exact SeqAt.in_tuple_reads r2 r1 cl (SeqAt.canLay_of_shaped sd) (room_in sd hu) ⟨.bl _, H, I, rfl, q⟩
theorem op_notInE (hu : X.A.units + 65 < cLine) : OpR X (compareOp .NotIn) (rInE X.K true) := by
  intro pins s σ H x y v u Q I rx ry h
  obtain ⟨d, ds, hd, he, sd, se, q⟩ := h
  obtain ⟨as, r1⟩ := Dp.reads I d x v hd rx
  have cl : PyData.canLayAll0 ds = true := by simpa [PyData.canLay0] using SeqAt.canLay_of_shaped se
  rcases he with he | he
  · obtain ⟨bs, r2⟩ := Dp.reads I (.list ds) y u he ry
    exact SeqAt.notIn_list_reads r2 r1 cl (SeqAt.canLay_of_shaped sd) (room_in sd hu) ⟨.bl _, H, I, rfl, q⟩
  · obtain ⟨bs, r2⟩ := Dp.reads I (.tuple ds) y u he ry
    exact SeqAt.notIn_tuple_reads r2 r1 cl (SeqAt.canLay_of_shaped sd) (room_in sd hu) ⟨.bl _, H, I, rfl, q⟩
end
end L2
namespace VS
open PySem PySem.Spec PyProof.Rows L2
section
variable {X : Cx} {C : SC} {B : Bs} {a b c e tg : Expr} {pos p p2 : Pos} {x y : Str} {k j : Nat} {ma mb : M (M D)} {m va vb : M D} {ms : M (List D)} {es : List Expr} {n : Nat}
theorem Ok.units65 {k : Nat} (c : Ok X C k) : X.A.units + 65 < cLine := by have := c.room.un; omega
theorem canAll {ds : List D} (h : SeqAt.shaped (.list ds) = true) : (PyData.list ds).canLay0 = true := SeqAt.canLay_of_shaped h
theorem canAllT {ds : List D} (h : SeqAt.shaped (.list ds) = true) : (PyData.tuple ds).canLay0 = true := by
  have := SeqAt.canLay_of_shaped h
  simpa [PyData.canLay0] using this
def gIn (neg : Bool) (d e : D) : Res D := match e with
  | .list ds => if (SeqAt.shaped d && SeqAt.shaped (.list ds)) = true then .ok (.bool (if neg then !(ds.any fun z => PyData.eqv z d) else ds.any fun z => PyData.eqv z d)) else .bad
  | .tuple ds => if (SeqAt.shaped d && SeqAt.shaped (.list ds)) = true then .ok (.bool (if neg then !(ds.any fun z => PyData.eqv z d) else ds.any fun z => PyData.eqv z d)) else .bad
  | _ => .bad
theorem o_inE {neg : Bool} : Op2 X C (gIn neg) (rInE X.K neg) := fun B F σ H ρ x y d e Q S rx ry h => by
  cases e <;> try exact (RX.bad_elim h rfl).elim
  all_goals
    rename_i ds
    by_cases p : (SeqAt.shaped d && SeqAt.shaped (.list ds)) = true
    · obtain ⟨p1, p2⟩ := Bool.and_eq_true_iff.mp p
      refine ⟨d, ds, rpv_dp S.fr rx (SeqAt.canLay_of_shaped p1), ?_, p1, p2, pd_bl S h (by simp only [gIn, if_pos p])⟩
      first
        | exact .inl (rpv_dp S.fr ry (canAll p2))
        | exact .inr (rpv_dp S.fr ry (canAllT p2))
    · exact (RX.bad_elim h (by simp only [gIn, if_neg p])).elim
theorem o_in (hu : X.A.units + 65 < cLine) : OpD X C (compareOp .In) (gIn false) := ⟨_, op_inE hu, o_inE⟩
theorem o_notIn (hu : X.A.units + 65 < cLine) : OpD X C (compareOp .NotIn) (gIn true) := ⟨_, op_notInE hu, o_inE⟩
/-! ### defs by what they promise -/
structure DefV (P : Program) (w : World) (K : PySem.W.Frag) (mg : Str → Option Value) (base : Heap) (k : Nat) (x : Str) (n : Nat) (f : List D → Res D) : Prop where
  ex : ∃ fa fd ps, mg x = some (.ref fa) ∧ PySem.W.keepIn K (.ref fa) = true ∧ Binds K fd ps [] ∧ FnOk P w K mg base (L2.CX P w) k fa fd ps (spV K mg n f)
structure DefO (P : Program) (w : World) (K : PySem.W.Frag) (mg : Str → Option Value) (base : Heap) (k : Nat) (x : Str) (n : Nat) (f : List D → Res (List D)) : Prop where
  ex : ∃ fa fd ps, mg x = some (.ref fa) ∧ PySem.W.keepIn K (.ref fa) = true ∧ Binds K fd ps [] ∧ FnOk P w K mg base (L2.CX P w) k fa fd ps (spO K n f)
structure DefR (P : Program) (w : World) (K : PySem.W.Frag) (mg : Str → Option Value) (base : Heap) (k : Nat) (x : Str) (n : Nat) (f : List D → List D → Res (D × List D)) : Prop where
  ex : ∃ fa fd ps, mg x = some (.ref fa) ∧ PySem.W.keepIn K (.ref fa) = true ∧ Binds K fd ps [] ∧ FnOk P w K mg base (L2.CX P w) k fa fd ps (spR K n f)
/-- arguments of a known number -/
structure PAn (X : Cx) (C : SC) (es : List Expr) (ms : M (List D)) (n : Nat) : Prop where
  pa : PA X es (tA X.K C ms)
  len : ∀ ρ ds ρ', ms ρ = .ok (ds, ρ') → ds.length = n
theorem an_nil : PAn X C [] (pure []) 0 := ⟨ma_nil, len_nil⟩
theorem an_cons (ha : PE X a (tM X.K C va)) (h : PAn X C es ms n) (hs : starEach (a :: es) X.env = (false, eval a X.env) :: starEach es X.env := by rfl) : PAn X C (a :: es) (eCons va ms) (n + 1) := ⟨ma_cons ha h.pa hs, len_cons h.len⟩
theorem mv_call {f : List D → Res D} (G : DefV X.prog X.w X.K X.mg X.base j x n f) (c : Ok X C k) (hj : j ≤ k) (ha : PAn X C (a :: es) ms n) (hg : Gl X x := by rfl) (hdb : (x == ("__debug__" : Str)) = false := by decide)
    (he : starEach (a :: es) X.env = (false, eval a X.env) :: starEach es X.env := by rfl) (hpl : (backTo pos (starEach es X.env)).any (·.1) = false := by rfl) : PE X (.Call (.Name x p) (a :: es) [] pos) (tM X.K C (eCall f ms)) :=
  let ⟨_, _, _, hm, hk, hb, G⟩ := G
  m_call G c hj hm hk hb ha.pa hg hdb he hpl ha.len
theorem mv_call0 {f : List D → Res D} (G : DefV X.prog X.w X.K X.mg X.base j x 0 f) (c : Ok X C k) (hj : j ≤ k) (hg : Gl X x := by rfl) (hdb : (x == ("__debug__" : Str)) = false := by decide) : PE X (.Call (.Name x p) [] [] pos) (tM X.K C (eCall f (pure []))) :=
  let ⟨_, _, _, hm, hk, hb, G⟩ := G
  m_call0 G c hj hm hk hb hg hdb
theorem mo_call {f : List D → Res (List D)} (G : DefO X.prog X.w X.K X.mg X.base j x n f) (c : Ok X C k) (hj : j ≤ k) (ha : PAn X C (a :: es) ms n) (hg : Gl X x := by rfl) (hdb : (x == ("__debug__" : Str)) = false := by decide)
    (he : starEach (a :: es) X.env = (false, eval a X.env) :: starEach es X.env := by rfl) (hpl : (backTo pos (starEach es X.env)).any (·.1) = false := by rfl) : PE X (.Call (.Name x p) (a :: es) [] pos) (tO X.K C (eCallO f ms)) :=
  let ⟨_, _, _, hm, hk, hb, G⟩ := G
  m_callO G c hj hm hk hb ha.pa hg hdb he hpl ha.len
theorem mr_call {f : List D → List D → Res (D × List D)} (i : Nat) (G : DefR X.prog X.w X.K X.mg X.base j x n f) (c : Ok X C k) (hj : j ≤ k) (ha : PAn X C es ms n) (hN : X.N[i]? = some y := by rfl) (hv : Vis X.env.scope y := by first | exact Or.inl rfl | exact Or.inr (Or.inl rfl) | exact Or.inr (Or.inr rfl)) (hdy : (y == ("__debug__" : Str)) = false := by decide)
    (hcd : (y == ("__classdict__" : Str)) = false := by decide) (hg : Gl X x := by rfl) (hdb : (x == ("__debug__" : Str)) = false := by decide)
    (he : starEach (.Name y p2 :: es) X.env = (false, eval (.Name y p2) X.env) :: starEach es X.env := by rfl) (hpl : (backTo pos (starEach es X.env)).any (·.1) = false := by rfl) : PE X (.Call (.Name x p) (.Name y p2 :: es) [] pos) (tM X.K C (eCallR i f ms)) :=
  let ⟨_, _, _, hm, hk, hb, G⟩ := G
  m_callR i G c hj hm hk hb ha.pa hN hv hdy hcd hg hdb he hpl ha.len
/-! ### more stores -/
def sAsg (bd : D → M Unit) (m : M D) : M Fl := m >>= fun d => bd d >>= fun _ => pure .nx
theorem ms_asg {is : List Nat} {bd : D → M Unit} (h : PE X e (tM X.K C m)) (hg : PG X tg (tG X.K C is bd)) (hs : swapsWithSole [tg] e pos.line X.env = pure false := by rfl) (hw : swappedStores [tg] e X.env = pure none := by rfl)
    (h1 : (assignEach [tg] X.env).map (·.2) = [assign tg X.env] := by rfl) : PS X (.Assign [tg] e pos) (tS X.K C (sAsg bd m)) := ps_imp (ps_asg h hg hs hw h1) fun E σ H ⟨B, F, ρ, S, q⟩ => by
  refine tM.of S q.bind fun d ρ1 h1 v F1 H1 s1 S1 r1 => ?_
  exact ⟨B, F1, ρ1, d, S1, r1, h1.bind.imp fun _ ρ2 h2 σ2 ch S2 => h2 σ2 F1 H1 s1 S2⟩
def sPar (i j : Nat) (ms : M (List D)) : M Fl := ms >>= fun ds => match ds with
  | [d, e] => setV i d >>= fun _ => setV j e >>= fun _ => pure .nx
  | _ => fun _ => .bad
theorem ms_par {px py pt : Pos} {kt k2 pt2} (i j : Nat) (ni : C.rf = none ∨ i ≠ 0) (nj : C.rf = none ∨ j ≠ 0) (hc : X.calm = true) (hN : X.N.Nodup) (hij : i ≠ j) (ha : PA X [a, b] (tA X.K C ms)) (hi : X.N[i]? = some x := by rfl) (hj : X.N[j]? = some y := by rfl)
    (hx : X.env.scope.names.lookup x = some .local := by rfl) (hy : X.env.scope.names.lookup y = some .local := by rfl)
    (hw : swappedStores [.Tuple [.Name x px, .Name y py] kt pt] (.Tuple [a, b] k2 pt2) X.env = pure (some [x, y]) := by rfl)
    (hs : swapsWithSole [.Tuple [.Name x px, .Name y py] kt pt] (.Tuple [a, b] k2 pt2) pos.line X.env = pure false := by rfl) :
    PS X (.Assign [.Tuple [.Name x px, .Name y py] kt pt] (.Tuple [a, b] k2 pt2) pos) (tS X.K C (sPar i j ms)) := ps_imp (ps_par hc hN hi hj hij hx hy ha hw hs) fun E σ H ⟨B, F, ρ, S, q⟩ => by
  refine tA.of S q.bind fun ds ρ1 h1 vs F1 H1 s1 S1 r1 => ?_
  cases ds with
  | nil => exact (show False from h1).elim
  | cons d ds =>
    cases ds with
    | nil => exact (show False from h1).elim
    | cons e ds =>
      cases ds with
      | cons _ _ => exact (show False from h1).elim
      | nil =>
        obtain ⟨v, vr, rfl, rv, u, ur, rfl, ru, rfl⟩ := r1
        refine ⟨v, u, rfl, ?_⟩
        have h2 : RX C B (PF X.K C B F E) ((setV i d >>= fun _ => setV j e >>= fun _ => pure .nx) ρ1) := h1
        have h3 := h2.bind
        unfold setV at h3
        by_cases z : i < ρ1.length
        · rw [if_pos z] at h3
          have h4 := RX.bind (show RX C B (PF X.K C B F E) ((setV j e >>= fun _ => pure .nx) (ρ1.set i (.val d))) from h3)
          unfold setV at h4
          by_cases z2 : j < (ρ1.set i (.val d)).length
          · rw [if_pos z2] at h4
            exact h4 _ F1 H1 s1 ((S1.setV ni rv).setV nj ru)
          · rw [if_neg z2] at h4
            exact h4.elim
        · rw [if_neg z] at h3
          exact h3.elim
/-! ### isinstance(x, (T1, T2)) -/
def isTys (Ts : List String) (d : D) : Bool := Ts.any fun T => isTy T d
theorem kitAny_tys {Ts : List String} (h : ∀ T ∈ Ts, T ∈ ["int", "bool", "str", "tuple", "list", "dict"]) (d : D) : PySem.W.kitAny X.K (.type (tyD d)) (Ts.map Value.type) = some (isTys Ts d) := by
  induction Ts with
  | nil => exact kitAny_nil
  | cons T Ts ih =>
    refine kitAny_cons (kit_ty (kit_some (h T List.mem_cons_self) d)) (fun e => ?_) (fun e => ?_)
    · rw [ih fun T hT => h T (List.mem_cons_of_mem _ hT)]
      unfold isTys
      rw [List.any_cons, e, Bool.false_or]
    · unfold isTys
      rw [List.any_cons, e, Bool.true_or]
theorem tys_rel : ∀ Ts : List String, Paired ClsV (Ts.map V.ty) (Ts.map Value.type)
  | [] => .nil
  | T :: Ts => .cons (.ty T) (tys_rel Ts)
def gIsis (Ts : List String) (d : D) : Res D := .ok (.bool (isTys Ts d))
/-- the written tuple of types -/
structure Tys (X : Cx) (es : List Expr) (Ts : List String) : Prop where
  pa : ∀ (pos : Pos), PA X es (fun _ H Q => Q (Ts.map V.ty) H)
theorem tys_nil : Tys X [] [] := ⟨fun _ => ⟨fun pos pins s σ H Q I h => pa_nil.run pos pins s σ H Q I h⟩⟩
theorem tys_cons {T : String} {Ts : List String} (h : Tys X es Ts) (hm : X.mg x = none) (hg : Gl X x := by rfl) (hv : bootBuiltins x = some (.type T) := by decide +kernel) (hn : x ≠ "__name__" := by decide) (hdb : (x == ("__debug__" : Str)) = false := by decide)
    (hs : starEach (.Name x p :: es) X.env = (false, eval (.Name x p) X.env) :: starEach es X.env := by rfl) : Tys X (.Name x p :: es) (T :: Ts) := ⟨fun pos => pa_imp (pa_cons (pe_bltn hg hm hv (v := .ty T) rfl hn hdb) (h.pa pos) hs) fun σ H Q q => q⟩
theorem m_isis {Ts : List String} {kk : Nat} {ctx} (hT : ∀ T ∈ Ts, T ∈ ["int", "bool", "str", "tuple", "list", "dict"]) (hl : Ts.length ≤ 6) (hm : X.mg "isinstance" = none) (ha : PE X a (tL X.K C ma)) (ht : Tys X es Ts) (hg : Gl X "isinstance" := by rfl)
    (he : starEach [a, .Tuple es ctx p2] X.env = (false, eval a X.env) :: starEach [.Tuple es ctx p2] X.env := by rfl) (he2 : starEach [.Tuple es ctx p2] X.env = (false, eval (.Tuple es ctx p2) X.env) :: starEach [] X.env := by rfl) (hpl : (backTo pos (starEach [.Tuple es ctx p2] X.env)).any (·.1) = false := by rfl) :
    PE X (.Call (.Name "isinstance" p) [a, .Tuple es ctx p2] [] pos) (tM X.K C (e1 (gIsis Ts) ma)) :=
  pe_imp (pe_callB call_isiT hg hm (by decide +kernel) (pa_cons ha (pa_cons (pe_tup (ht.pa pos)) pa_nil he2) he) (by decide) (by decide) he hpl) fun σ H Q h => by
    obtain ⟨B, F, ρ, S, q⟩ := h
    refine tL.of S q.bind fun la ρ1 h1 v F1 H1 s1 S1 r1 => ?_
    obtain ⟨d, rd, h3⟩ := late_step S1 r1 h1
    refine ⟨by rw [List.length_map, sizeLine_eq]; omega, fun tp np => ?_⟩
    have S2 := S1.alloc (o := .tup (Ts.map V.ty)) np
    have rd2 : RpV X.K (upd F1 tp (.tup (Ts.map V.ty))) (upd H1 tp (.tup (Ts.map V.ty))) d v := by
      rcases rd with r | ⟨p, xs, ds, e1, e2, e3, z, r⟩
      · exact .inl (r.mono (same_upd (S1.fresh np).1))
      · exact .inr ⟨p, xs, ds, e1, e2, by rw [upd_ne (ne_of_none e3 np)]; exact e3, z, r.mono (same_upd (S1.fresh np).1)⟩
    exact ⟨v, tp, Ts.map V.ty, _, _, _, rfl, upd_same, tys_rel Ts, rpv_ty S2.fr rd2, kitAny_tys hT d, pd_bl S2 (h3.imp fun _ _ q => q.mono (s1.trans (same_upd (S1.fresh np).1))) rfl⟩
/-! ### raise -/
theorem ms_raise {W : WX} {x : Str} {Cc : Addr} {z : Str} {jj : Nat} {p3 : Pos} {bmB : List Value} {Bn newId initId : String} (hc : X.calm = true) (tk : Takes X W) (hW : ∀ σ H', C.Ex x H' → W (.ref Cc) none σ H') (F : ExcBaseFacts Bn newId initId bmB) (q : PySem.W.excIn X.K Cc bmB newId = true) (gC : X.mg x = some (.ref Cc)) (kC : PySem.W.keepIn X.K (.ref Cc) = true) (r : Raises X (.ref Cc)) (hg : Gl X x := by rfl)
    (hdb : (x == ("__debug__" : Str)) = false := by decide) : PS X (.Raise (some (.Call (.Name x p) [.Constant (.str z) jj p3] [] p2)) none pos) (tS X.K C (fun _ => .exc x)) :=
  ps_imp (ps_raise hc tk (pmk_own F q gC kC r hg hdb)) fun E σ H ⟨B, F, ρ, S, q⟩ => hW σ H (q H S.kp)
end
end VS
namespace VS
open PySem PySem.Spec PyProof.Rows L2
section
variable {X : Cx} {C : SC} {B : Bs} {a : Expr} {pos : Pos} {x : Str} {ma : M (M D)}
theorem mg_int {i : Int} (h : ∃ t, X.mg x = some (.int i t)) (hg : Gl X x := by rfl) (hdb : (x == ("__debug__" : Str)) = false := by decide) : PE X (.Name x pos) (tM X.K C (pure (.int i))) :=
  let ⟨t, h⟩ := h
  m_glb hg h (v := .int i) ⟨t, rfl⟩ (fun _ => rfl) hdb
theorem mg_str {i : Str} (h : ∃ t, X.mg x = some (.str i t)) (hg : Gl X x := by rfl) (hdb : (x == ("__debug__" : Str)) = false := by decide) : PE X (.Name x pos) (tM X.K C (pure (.str i))) :=
  let ⟨t, h⟩ := h
  m_glb hg h (v := .str i) ⟨t, rfl⟩ (fun _ => rfl) hdb
end
end VS

set_option Elab.async false
set_option linter.all false
set_option maxRecDepth 100000
set_option maxHeartbeats 4000000
namespace VS
open PySem PySem.Spec PyProof.Rows L2
/-! ### the script, handed on as the first argument -/
def spSV (K : PySem.W.Frag) (mg : Str → Option Value) (n : Nat) (f : List Int → List D → Res D) : Sp := fun vs H Q E => ∃ a ws ns es F, vs = .ref a :: ws ∧ Same F H ∧ SqL K F a (ns.map V.int) ∧ RpAll K F es ws ∧ es.length = n ∧ match f ns es with
  | .ok d => ∀ v F' H', Left F H F' H' → Rp K F' d v → Q v H'
  | _ => False
def spSO (K : PySem.W.Frag) (n : Nat) (f : List Int → List D → Res (List D)) : Sp := fun vs H Q E => ∃ a ws ns es F, vs = .ref a :: ws ∧ Same F H ∧ SqL K F a (ns.map V.int) ∧ RpAll K F es ws ∧ es.length = n ∧ match f ns es with
  | .ok es => ∀ p xs F' H', Left F H F' H' → F' p = none → H p = none → H' p = some (.lst xs) → xs.length ≤ sizeLine → RpAll K F' es xs → Q (.ref p) H'
  | _ => False
structure DefSV (P : Program) (w : World) (K : PySem.W.Frag) (mg : Str → Option Value) (base : Heap) (k : Nat) (x : Str) (n : Nat) (f : List Int → List D → Res D) : Prop where
  ex : ∃ fa fd ps, mg x = some (.ref fa) ∧ PySem.W.keepIn K (.ref fa) = true ∧ Binds K fd ps [] ∧ FnOk P w K mg base (L2.CX P w) k fa fd ps (spSV K mg n f)
structure DefSO (P : Program) (w : World) (K : PySem.W.Frag) (mg : Str → Option Value) (base : Heap) (k : Nat) (x : Str) (n : Nat) (f : List Int → List D → Res (List D)) : Prop where
  ex : ∃ fa fd ps, mg x = some (.ref fa) ∧ PySem.W.keepIn K (.ref fa) = true ∧ Binds K fd ps [] ∧ FnOk P w K mg base (L2.CX P w) k fa fd ps (spSO K n f)
section
variable {X : Cx} {C : SC} {B : Bs} {a b : Expr} {pos p p2 : Pos} {x y : Str} {k j : Nat} {mb : M (M D)} {ms : M (List D)} {es : List Expr} {n : Nat} {i : Nat}
/-- the script in the slot i -/
def scrAt (i : Nat) : M (List Int) := fun ρ => match ρ[i]? with
  | some (.scr ns) => .ok (ns, ρ)
  | _ => .bad
theorem scr_read {α : Type} {Φ : α → En → Prop} {ρ : En} {f : List Int → M α} (h : RX C B Φ ((scrAt i >>= f) ρ)) : ∃ ns, ρ[i]? = some (.scr ns) ∧ RX C B Φ (f ns ρ) := by
  have h2 := h.bind
  unfold scrAt at h2
  cases e : ρ[i]? with
  | none => rw [e] at h2; exact h2.elim
  | some s =>
    rw [e] at h2
    cases s with
    | scr ns => exact ⟨ns, rfl, h2⟩
    | _ => exact h2.elim
theorem scr_val {F H : Hp} {σ : L2.St} {ρ : En} (S : SR X.K C B F σ H ρ) {ns : List Int} (e : ρ[i]? = some (.scr ns)) : ∃ a, σ[i]? = some (some (.ref a)) ∧ SqL X.K F a (ns.map V.int) := by
  have hlt := (List.getElem?_eq_some_iff.mp e).1
  have hl := S.len
  have ev : σ[i]? = some (σ[i]'(by omega)) := by simp
  obtain ⟨a, ea, q⟩ := S.sl i _ _ e ev
  rw [ea] at ev
  exact ⟨a, ev, q⟩
def eLenS (i : Nat) : M D := scrAt i >>= fun ns => pure (.int ns.length)
theorem m_lenS (i : Nat) (hm : X.mg "len" = none) (hN : X.N[i]? = some y := by rfl) (hv : Vis X.env.scope y := by first | exact Or.inl rfl | exact Or.inr (Or.inl rfl) | exact Or.inr (Or.inr rfl)) (hd : (y == ("__debug__" : Str)) = false := by decide)
    (hcd : (y == ("__classdict__" : Str)) = false := by decide) (hg : Gl X "len" := by rfl) (he : starEach [.Name y p2] X.env = (false, eval (.Name y p2) X.env) :: starEach [] X.env := by rfl) (hpl : (backTo pos (starEach [] X.env)).any (·.1) = false := by rfl) :
    PE X (.Call (.Name "len" p) [.Name y p2] [] pos) (tM X.K C (eLenS i)) :=
  pe_imp (pe_callB call_len_seq hg hm (by decide +kernel) (pa_cons (pe_var hN hv hd hcd) pa_nil he) (by decide) (by decide) he hpl) fun σ H Q ⟨B, F, ρ, S, q⟩ => by
    obtain ⟨ns, e, q⟩ := scr_read q
    obtain ⟨a, ev, hs⟩ := scr_val S e
    refine ⟨_, ev, a, _, rfl, .inl (S.fr.seq hs), ?_⟩
    rw [List.length_map]
    exact q _ F H (Same.refl _) S rfl
def atS (ns : List Int) (k : Int) : Res D := match atI ns k with
  | some z => .ok (.int z)
  | none => .bad
def eIxS (i : Nat) (mb : M (M D)) : M D := scrAt i >>= fun ns => mb >>= fun l => l >>= fun d => M.lift (asI d) >>= fun k => M.lift (atS ns k)
theorem m_ixS (i : Nat) (hb : PE X b (tL X.K C mb)) (hN : X.N[i]? = some y := by rfl) (hv : Vis X.env.scope y := by first | exact Or.inl rfl | exact Or.inr (Or.inl rfl) | exact Or.inr (Or.inr rfl)) (hd : (y == ("__debug__" : Str)) = false := by decide)
    (hcd : (y == ("__classdict__" : Str)) = false := by decide) (hs : PlainIx b := by exact fun _ _ => rfl) : PE X (.Subscript (.Name y p2) b pos) (tM X.K C (eIxS i mb)) :=
  pe_imp (pe_ix ix_list (pe_var hN hv hd hcd) hb hs) fun σ H Q ⟨B, F, ρ, S, q⟩ => by
    obtain ⟨ns, e, q⟩ := scr_read q
    obtain ⟨a, ev, hs⟩ := scr_val S e
    refine ⟨_, ev, ?_⟩
    refine tL.of S q.bind fun l ρ1 h1 v F1 H1 s1 S1 r1 => ?_
    obtain ⟨d, rd, h2⟩ := late_step S1 r1 h1
    obtain ⟨kk, rfl, h3⟩ := asI_step h2
    cases ez : atI ns kk with
    | none => exact (RX.bad_elim (show RX C B _ (M.lift (atS ns kk) ρ1) from h3) (by unfold atS; rw [ez])).elim
    | some z =>
      refine ⟨a, _, kk, .int z, rfl, rpv_int rd, S1.fr.seq (s1.seq hs), ?_, ?_⟩
      · unfold atI at ez ⊢
        rw [List.length_map]
        cases ei : ixN ns.length kk with
        | none => rw [ei] at ez; cases ez
        | some j =>
          rw [ei] at ez
          show (List.map V.int ns)[j]? = some (.int z)
          rw [List.getElem?_map, show ns[j]? = some z from ez]
          rfl
      · have h4 : RX C B (PD X.K C B σ F Q) (M.lift (atS ns kk) ρ1) := h3
        unfold atS at h4
        rw [ez] at h4
        exact h4 _ F1 H1 s1 S1 rfl
def eCallSV (i : Nat) (f : List Int → List D → Res D) (ms : M (List D)) : M D := scrAt i >>= fun ns => ms >>= fun es => M.lift (match f ns es with | .ok d => .ok d | _ => .bad)
def eCallSO (i : Nat) (f : List Int → List D → Res (List D)) (ms : M (List D)) : M (List D) := scrAt i >>= fun ns => ms >>= fun es => M.lift (match f ns es with | .ok d => .ok d | _ => .bad)
theorem mvS_call {f : List Int → List D → Res D} (i : Nat) (G : DefSV X.prog X.w X.K X.mg X.base j x n f) (c : Ok X C k) (hj : j ≤ k) (ha : PAn X C es ms n) (hN : X.N[i]? = some y := by rfl) (hv : Vis X.env.scope y := by first | exact Or.inl rfl | exact Or.inr (Or.inl rfl) | exact Or.inr (Or.inr rfl)) (hdy : (y == ("__debug__" : Str)) = false := by decide)
    (hcd : (y == ("__classdict__" : Str)) = false := by decide) (hg : Gl X x := by rfl) (hdb : (x == ("__debug__" : Str)) = false := by decide)
    (he : starEach (.Name y p2 :: es) X.env = (false, eval (.Name y p2) X.env) :: starEach es X.env := by rfl) (hpl : (backTo pos (starEach es X.env)).any (·.1) = false := by rfl) : PE X (.Call (.Name x p) (.Name y p2 :: es) [] pos) (tM X.K C (eCallSV i f ms)) := by
  obtain ⟨_, _, _, hm, hk, hb, G⟩ := G
  refine pe_imp (pe_call G (c.room.mono hj) hg hm hk hb .nil c.pass (pa_cons (pe_var hN hv hdy hcd) ha.pa he) hdb he hpl) fun σ H Q ⟨B, F, ρ, S, q⟩ => ?_
  obtain ⟨ns, e, q⟩ := scr_read q
  obtain ⟨a, ev, hs⟩ := scr_val S e
  refine ⟨_, ev, ?_⟩
  have q1 := q.bind
  cases em : ms ρ with
  | bad => rw [em] at q1; exact q1.elim
  | exc cc =>
    refine ⟨B, F, ρ, S, ?_⟩
    rw [em] at q1 ⊢
    exact q1
  | ok pr =>
    obtain ⟨ds, ρ1⟩ := pr
    refine ⟨B, F, ρ, S, ?_⟩
    rw [em] at q1 ⊢
    exact fun vs F1 H1 s1 S1 r1 => by
      show spSV X.K X.mg n f ((.ref a :: vs) ++ []) H1 Q (EX X.mg C)
      rw [List.append_nil]
      refine ⟨a, vs, ns, ds, F1, rfl, S1.fr, s1.seq hs, r1, ha.len ρ ds ρ1 em, ?_⟩
      have q2 : RX C B (PD X.K C B σ F Q) (M.lift (match f ns ds with | .ok d => .ok d | _ => .bad) ρ1) := q1
      cases ef : f ns ds with
      | ok d => rw [ef] at q2; exact fun v F' H' l rv => q2 v F' H' (s1.trans l.1) (S1.grow l.2.2.1 l.1 l.2.1 l.2.2.2) rv
      | exc c => rw [ef] at q2; exact q2
      | bad => rw [ef] at q2; exact q2
theorem moS_call {f : List Int → List D → Res (List D)} (i : Nat) (G : DefSO X.prog X.w X.K X.mg X.base j x n f) (c : Ok X C k) (hj : j ≤ k) (ha : PAn X C es ms n) (hN : X.N[i]? = some y := by rfl) (hv : Vis X.env.scope y := by first | exact Or.inl rfl | exact Or.inr (Or.inl rfl) | exact Or.inr (Or.inr rfl)) (hdy : (y == ("__debug__" : Str)) = false := by decide)
    (hcd : (y == ("__classdict__" : Str)) = false := by decide) (hg : Gl X x := by rfl) (hdb : (x == ("__debug__" : Str)) = false := by decide)
    (he : starEach (.Name y p2 :: es) X.env = (false, eval (.Name y p2) X.env) :: starEach es X.env := by rfl) (hpl : (backTo pos (starEach es X.env)).any (·.1) = false := by rfl) : PE X (.Call (.Name x p) (.Name y p2 :: es) [] pos) (tO X.K C (eCallSO i f ms)) := by
  obtain ⟨_, _, _, hm, hk, hb, G⟩ := G
  refine pe_imp (pe_call G (c.room.mono hj) hg hm hk hb .nil c.pass (pa_cons (pe_var hN hv hdy hcd) ha.pa he) hdb he hpl) fun σ H Q ⟨B, F, ρ, S, q⟩ => ?_
  obtain ⟨ns, e, q⟩ := scr_read q
  obtain ⟨a, ev, hs⟩ := scr_val S e
  refine ⟨_, ev, ?_⟩
  have q1 := q.bind
  cases em : ms ρ with
  | bad => rw [em] at q1; exact q1.elim
  | exc cc =>
    refine ⟨B, F, ρ, S, ?_⟩
    rw [em] at q1 ⊢
    exact q1
  | ok pr =>
    obtain ⟨ds, ρ1⟩ := pr
    refine ⟨B, F, ρ, S, ?_⟩
    rw [em] at q1 ⊢
    exact fun vs F1 H1 s1 S1 r1 => by
      show spSO X.K n f ((.ref a :: vs) ++ []) H1 Q (EX X.mg C)
      rw [List.append_nil]
      refine ⟨a, vs, ns, ds, F1, rfl, S1.fr, s1.seq hs, r1, ha.len ρ ds ρ1 em, ?_⟩
      have q2 : RX C B (PO X.K C B σ F Q) (M.lift (match f ns ds with | .ok d => .ok d | _ => .bad) ρ1) := q1
      cases ef : f ns ds with
      | ok d =>
        rw [ef] at q2
        refine fun p xs F' H' l fp hp hp' z r => q2 p xs F' H' (s1.trans l.1) (S1.grow l.2.2.1 l.1 l.2.1 l.2.2.2) fp (S1.fresh hp).2 (fun i o => ?_) hp' z r
        obtain ⟨u, hu⟩ := own_there S1 o
        rw [hp] at hu; cases hu
      | exc c => rw [ef] at q2; exact q2
      | bad => rw [ef] at q2; exact q2
end
/-! ### bodies whose first argument is the script -/
def startS (n : Nat) (ns : List Int) (es : List D) : En := .scr ns :: (es.map .val ++ List.replicate (n - 1 - es.length) .emp)
def runSV (n : Nat) (m : M Fl) (ns : List Int) (es : List D) : Res D := match m (startS n ns es) with
  | .ok (.rt d, _) => .ok d
  | .ok (.nx, _) => .ok .none
  | _ => .bad
def runSO (n : Nat) (m : M Fl) (ns : List Int) (es : List D) : Res (List D) := match m (startS n ns es) with
  | .ok (.ro d, _) => .ok d
  | _ => .bad
section
variable {P : Program} {w : World} {K : PySem.W.Frag} {mg : Str → Option Value} {base : Heap} {x : Str} {st : Stmt} {fa : Addr} {fd : FuncData} {N ps : List Str} {k n : Nat}
theorem startS_at {vs : List V} {ns : List Int} {es : List D} {N : List Str} {p : Addr} (h : es.length = vs.length) {i : Nat} {s : Sl} {v : Option V} (e1 : (startS N.length ns es)[i]? = some s) (e2 : (start N (.ref p :: vs))[i]? = some v) : (i = 0 ∧ s = .scr ns ∧ v = some (.ref p)) ∨ (s = .emp) ∨ ∃ d x, es[i - 1]? = some d ∧ vs[i - 1]? = some x ∧ s = .val d ∧ v = some x := by
  cases i with
  | zero =>
    unfold startS at e1
    unfold L2.start at e2
    simp at e1 e2
    exact .inl ⟨rfl, e1.symm, e2.symm⟩
  | succ i =>
    right
    unfold startS at e1
    unfold L2.start at e2
    simp only [List.getElem?_cons_succ, List.map_cons, List.cons_append, Nat.add_sub_cancel] at e1 e2 ⊢
    by_cases hi : i < es.length
    · rw [List.getElem?_append_left (by simpa using hi), List.getElem?_map] at e1
      rw [List.getElem?_append_left (by simp; omega), List.getElem?_map] at e2
      obtain ⟨d, ed⟩ : ∃ d, es[i]? = some d := ⟨es[i], by simp [hi]⟩
      obtain ⟨y, ey⟩ : ∃ d, vs[i]? = some d := ⟨vs[i]'(by omega), by simp⟩
      rw [ed] at e1
      rw [ey] at e2
      cases e1
      cases e2
      exact .inr ⟨d, y, ed, ey, rfl, rfl⟩
    · rw [List.getElem?_append_right (by simpa using hi), List.getElem?_replicate] at e1
      split at e1
      · exact .inl (Option.some.inj e1).symm
      · cases e1
theorem sr_startS {E : XK} {F0 H : Hp} {vs : List V} {ns : List Int} {es : List D} {p : Addr} (S : FnScope N ps (defScope st)) (hps : ps.length = n + 1) (sf : Same F0 H) (hq : SqL K F0 p (ns.map V.int)) (r : RpAll K F0 es vs) (hn : es.length = n) : SR K (bodyC none mg E) ⟨H, F0⟩ F0 (start N (.ref p :: vs)) H (startS N.length ns es) := by
  have hl := r.len
  have hN : n + 1 ≤ N.length := by
    have := congrArg List.length S.pre
    rw [List.length_take] at this
    omega
  refine ⟨sf, fun a u _ f => f, fun a o e _ => e, ?_, fun i s v e1 e2 => ?_, fun i j q h1 h2 => ?_, fun q z => nomatch z⟩
  · unfold L2.start startS
    simp
    omega
  · rcases startS_at hl e1 e2 with ⟨rfl, rfl, rfl⟩ | rfl | ⟨d, y, e3, e4, rfl, rfl⟩
    · exact ⟨p, rfl, hq⟩
    · trivial
    · obtain ⟨y', e5, ry⟩ := r.get' e3
      rw [e4] at e5; cases e5
      exact ⟨y, rfl, ry⟩
  · obtain ⟨s1, e1, o1, e2⟩ := h1
    rcases startS_at hl e1 e2 with ⟨_, rs, _⟩ | rs | ⟨d, y, e3, e4, rs, _⟩
    · rw [rs] at o1; cases o1
    · rw [rs] at o1; cases o1
    · rw [rs] at o1; cases o1
theorem left_of {E : XK} {F0 H F' H' : Hp} {σ' : L2.St} {ρ' : En} (s : Same F0 F') (S : SR K (bodyC none mg E) ⟨H, F0⟩ F' σ' H' ρ') : Left F0 H F' H' := ⟨s, S.fr, fun a o q => S.kp a o q (fun z => nomatch z), fun q u e n => S.nf q u e n⟩
theorem fn_SV {m : M Fl} (F : FnP K x st fa fd) (S : FnScope N ps (defScope st)) (hps : ps.length = n + 1)
    (hbody : ∀ (cdv : Value) (A : Around) (outer : List PySem.Env) (s : Shared) (H : Hp) (E : XK), Ok (bodyX P w K mg base N x st fa cdv A outer s H E) (bodyC none mg E) k → PSs (bodyX P w K mg base N x st fa cdv A outer s H E) (defBody st) (tS K (bodyC none mg E) m)) :
    FnOk P w K mg base (L2.CX P w) (k + 1) fa fd ps (spSV K mg n (runSV N.length m)) := by
  refine F.ok S (fun vs H Q E h => ?_) (fun cdv A outer s H vs Q E hr h => ⟨_, hbody cdv A outer s H E (body_ok S hr), ?_⟩)
  · obtain ⟨p, ws, ns, es, F0, rfl, _, _, r, hn, _⟩ := h
    have := r.len
    simp; omega
  · obtain ⟨p, ws, ns, es, F0, rfl, sf, hq, r, hn, h⟩ := h
    refine ⟨⟨H, F0⟩, F0, startS N.length ns es, sr_startS S hps sf hq r hn, ?_⟩
    unfold runSV at h
    cases e : m (startS N.length ns es) with
    | bad => rw [e] at h; exact h
    | exc c => rw [e] at h; exact h.elim
    | ok pr =>
      obtain ⟨f, ρ'⟩ := pr
      rw [e] at h
      cases f with
      | nx => exact fun σ' F' H' s S => h .non F' H' (left_of s S) rfl
      | rt d => exact fun v σ' F' H' s S rv => h v F' H' (left_of s S) rv
      | ro d => exact h.elim
      | bk => exact h.elim
      | ct => exact h.elim
theorem fn_SO {m : M Fl} (F : FnP K x st fa fd) (S : FnScope N ps (defScope st)) (hps : ps.length = n + 1)
    (hbody : ∀ (cdv : Value) (A : Around) (outer : List PySem.Env) (s : Shared) (H : Hp) (E : XK), Ok (bodyX P w K mg base N x st fa cdv A outer s H E) (bodyC none mg E) k → PSs (bodyX P w K mg base N x st fa cdv A outer s H E) (defBody st) (tS K (bodyC none mg E) m)) :
    FnOk P w K mg base (L2.CX P w) (k + 1) fa fd ps (spSO K n (runSO N.length m)) := by
  refine F.ok S (fun vs H Q E h => ?_) (fun cdv A outer s H vs Q E hr h => ⟨_, hbody cdv A outer s H E (body_ok S hr), ?_⟩)
  · obtain ⟨p, ws, ns, es, F0, rfl, _, _, r, hn, _⟩ := h
    have := r.len
    simp; omega
  · obtain ⟨p, ws, ns, es, F0, rfl, sf, hq, r, hn, h⟩ := h
    refine ⟨⟨H, F0⟩, F0, startS N.length ns es, sr_startS S hps sf hq r hn, ?_⟩
    unfold runSO at h
    cases e : m (startS N.length ns es) with
    | bad => rw [e] at h; exact h
    | exc c => rw [e] at h; exact h.elim
    | ok pr =>
      obtain ⟨f, ρ'⟩ := pr
      rw [e] at h
      cases f with
      | ro d => exact fun p xs σ' F' H' s S fp bp hp z rv => h p xs F' H' (left_of s S) fp bp hp z rv
      | nx => exact h.elim
      | rt d => exact h.elim
      | bk => exact h.elim
      | ct => exact h.elim
/-- the law's own promise -/
def spLaw : Sp := fun vs H Q _ => ∃ a, ∃ ns : List Int, vs = [.ref a] ∧ ns.length ≤ 63 ∧ SqL K H a (ns.map V.int) ∧ ∀ H', Q (.bl true) H'
theorem law_ok {f : List Int → List D → Res D} (G : FnOk P w K mg base (L2.CX P w) k fa fd ps (spSV K mg 0 f)) (h : ∀ ns : List Int, ns.length ≤ 63 → f ns [] = .ok (.bool true)) : FnOk P w K mg base CX0 k fa fd ps (spLaw (K := K)) := by
  have key : ∀ vs H Q (E : XK), spLaw (K := K) vs H Q E → spSV K mg 0 f vs H Q E0 := fun vs H Q E ⟨a, ns, ev, hl, hs, q⟩ => by
    refine ⟨a, [], ns, [], H, ev, Same.refl _, hs, rfl, rfl, ?_⟩
    rw [h ns hl]
    exact fun v F' H' l rv => by
      have rv' : v = .bl true := rv
      rw [rv']
      exact q H'
  refine ⟨fun vs H Q E q => G.len vs H Q E0 (key vs H Q E q), fun A outer s H args us vs Q E hr e0 hb hv q => ?_⟩
  refine codeAny_mono (G.run A outer s H args us vs Q E0 hr e0 hb hv (key vs H Q E q)) fun r s' hq => ?_
  cases r with
  | ok fl => cases fl <;> exact hq
  | error e =>
    obtain ⟨_, _, _, _, _, _, _, _, _, _, _, _, z⟩ := hq
    exact z.elim
end
end VS

set_option Elab.async false
set_option linter.all false
set_option maxRecDepth 100000
set_option maxHeartbeats 4000000
namespace VS
open PySem PySem.Spec PyProof.Rows L2
/-! ### sorted of pairs of whole numbers -/
abbrev leP (p q : Int × Int) : Bool := !SrtO.lexB q p
def sortP (ps : List (Int × Int)) : List (Int × Int) := ps.mergeSort leP
theorem leP_iff {p q : Int × Int} : leP p q = true ↔ p.1 < q.1 ∨ (p.1 = q.1 ∧ p.2 ≤ q.2) := by
  unfold leP
  rw [Bool.not_eq_true', SrtO.lexB_no]
  omega
theorem sortP_perm (ps : List (Int × Int)) : (sortP ps).Perm ps := List.mergeSort_perm _ _
theorem sortP_sorted (ps : List (Int × Int)) : (sortP ps).Pairwise fun p q => leP p q = true :=
  List.pairwise_mergeSort (le := leP) (fun a b c h1 h2 => by rw [leP_iff] at *; omega) (fun a b => by rw [Bool.or_eq_true, leP_iff, leP_iff]; omega) ps
theorem sortedP_unique : ∀ {xs ys : List (Int × Int)}, xs.Perm ys → xs.Pairwise (fun p q => leP p q = true) → ys.Pairwise (fun p q => leP p q = true) → xs = ys
  | [], ys, h, _, _ => by rw [List.nil_perm.mp h]
  | x :: xs, [], h, _, _ => by exact absurd h.symm (by simp)
  | x :: xs, y :: ys, h, h1, h2 => by
    have a1 := List.pairwise_cons.mp h1
    have a2 := List.pairwise_cons.mp h2
    have mx : x ∈ y :: ys := h.mem_iff.mp List.mem_cons_self
    have my : y ∈ x :: xs := h.mem_iff.mpr List.mem_cons_self
    have e : x = y := by
      rcases List.mem_cons.mp mx with e | e
      · exact e
      · rcases List.mem_cons.mp my with e' | e'
        · exact e'.symm
        · have q1 := leP_iff.mp (a1.1 _ e')
          have q2 := leP_iff.mp (a2.1 _ e)
          refine Prod.ext ?_ ?_ <;> omega
    subst e
    rw [sortedP_unique (List.Perm.cons_inv h) a1.2 a2.2]
def pairD (p : Int × Int) : D := .tuple [.int p.1, .int p.2]
def pairsOf : List D → Option (List (Int × Int))
  | [] => some []
  | .tuple [.int a, .int b] :: r => match pairsOf r with
    | some ps => some ((a, b) :: ps)
    | none => none
  | _ :: _ => none
theorem pairsOf_eq : ∀ {ds : List D} {ps : List (Int × Int)}, pairsOf ds = some ps → ds = ps.map pairD
  | [], ps, h => by cases h; rfl
  | d :: r, ps, h => by
    unfold pairsOf at h
    split at h
    · rename_i h'; cases h'
    · rename_i a b r' h'
      cases h'
      cases e : pairsOf r with
      | none => rw [e] at h; cases h
      | some qs =>
        rw [e] at h
        cases h
        rw [pairsOf_eq e]
        rfl
    · cases h
theorem pairsOf_map : ∀ ps : List (Int × Int), pairsOf (ps.map pairD) = some ps
  | [] => rfl
  | p :: ps => by
    show (match pairsOf (ps.map pairD) with | some qs => some ((p.1, p.2) :: qs) | none => none) = _
    rw [pairsOf_map ps]
def gSorted : D → Res (List D)
  | .list ds => match intsOf ds with
    | some ns => .ok ((sortI ns).map .int)
    | none => match pairsOf ds with
      | some ps => .ok ((sortP ps).map pairD)
      | none => .bad
  | _ => .bad
section
variable {X : Cx} {C : SC}
def rSortedX (K : PySem.W.Frag) : List V → Hp → VK → Prop := fun vs H Q => rSortedI K vs H Q ∨ rSortedPO K vs H Q
theorem cr_sortedX : CallR X (.builtin "sorted") (rSortedX X.K) := fun pins s σ H vs us Q I r h => by
  rcases h with h | h
  · exact cr_sortedI pins s σ H vs us Q I r h
  · exact cr_sortedPO pins s σ H vs us Q I r h
def kOf (F : Hp) (v : V) : Int × Int := match v with
  | .ref t => match F t with
    | some (.tup [.int a, .int b]) => (a, b)
    | _ => (0, 0)
  | _ => (0, 0)
theorem pair_at {K : PySem.W.Frag} {F H : Hp} {p : Int × Int} {v : V} (s : Same F H) (r : Rp K F (pairD p) v) : kOf F v = p ∧ ∃ t, v = .ref t ∧ H t = some (.tup [.int (kOf F v).1, .int (kOf F v).2]) := by
  obtain ⟨t, xs, rfl, ft, _, y, ys, rfl, ry, z, zs, rfl, rz, e⟩ := r
  cases e
  cases (show y = .int p.1 from ry)
  cases (show z = .int p.2 from rz)
  have e : kOf F (.ref t) = p := by
    unfold kOf
    simp only [ft]
  refine ⟨e, t, rfl, ?_⟩
  rw [e]
  exact s _ _ ft
theorem pairs_at {K : PySem.W.Frag} {F H : Hp} (s : Same F H) : ∀ {ps : List (Int × Int)} {vs : List V}, RpAll K F (ps.map pairD) vs → vs.map (kOf F) = ps ∧ ∀ x ∈ vs, ∃ t, x = .ref t ∧ H t = some (.tup [.int (kOf F x).1, .int (kOf F x).2])
  | [], vs, h => by cases h; exact ⟨rfl, fun _ m => nomatch m⟩
  | p :: ps, vs, ⟨y, ys, e, r, q⟩ => by
    subst e
    obtain ⟨a, b⟩ := pairs_at s q
    obtain ⟨c, d⟩ := pair_at s r
    refine ⟨by rw [List.map_cons, a, c], fun x m => ?_⟩
    rcases List.mem_cons.mp m with rfl | m
    · exact d
    · exact b x m
theorem pairs_back {K : PySem.W.Frag} {F : Hp} : ∀ {vs : List V}, (∀ v ∈ vs, Rp K F (pairD (kOf F v)) v) → RpAll K F ((vs.map (kOf F)).map pairD) vs
  | [], _ => rfl
  | v :: vs, h => ⟨v, vs, rfl, h v List.mem_cons_self, pairs_back fun u m => h u (List.mem_cons_of_mem _ m)⟩
theorem rp_mem {K : PySem.W.Frag} {F : Hp} : ∀ {ds : List D} {vs : List V}, RpAll K F ds vs → ∀ v ∈ vs, ∃ d ∈ ds, Rp K F d v
  | [], vs, h, v, m => by cases h; cases m
  | d :: ds, vs, ⟨y, ys, e, r, q⟩, v, m => by
    subst e
    rcases List.mem_cons.mp m with rfl | m
    · exact ⟨d, List.mem_cons_self, r⟩
    · obtain ⟨d', m', r'⟩ := rp_mem q v m
      exact ⟨d', List.mem_cons_of_mem _ m', r'⟩
theorem f_sorted : Call1O X C (.builtin "sorted") gSorted := ⟨_, cr_sortedX, fun B F σ H ρ x d Q S rx h => by
  cases d <;> try exact (RX.bad_elim h rfl).elim
  rename_i ds
  obtain ⟨p, xs, rfl, fp, zx, r1⟩ := rpv_lst S.fr rx
  cases e : intsOf ds with
  | some ns =>
    have z := intsOf_eq e
    subst z
    have y := r1.ints
    subst y
    refine .inl ⟨p, ns, rfl, .inl fp, fun ns' q pm sd nq => ?_⟩
    rw [sorted_unique (pm.trans (sortI_perm ns).symm) sd (sortI_sorted ns)]
    refine po_new S h (by simp only [gSorted, e]) nq ?_ (RpAll.of_ints _)
    rw [List.length_map] at zx ⊢
    rw [(sortI_perm ns).length_eq]
    exact zx
  | none =>
    cases e2 : pairsOf ds with
    | none => exact (RX.bad_elim h (by simp only [gSorted, e, e2])).elim
    | some ps =>
      have z := pairsOf_eq e2
      subst z
      obtain ⟨a, b⟩ := pairs_at S.fr r1
      refine .inr ⟨p, xs, kOf F, rfl, .inl fp, b, fun ys q sd sb nq => ?_⟩
      have key : ys.map (kOf F) = sortP ps := by
        refine sortedP_unique ?_ ?_ (sortP_sorted ps)
        · exact ((sb.perm.map (kOf F)).trans (by rw [a])).trans (sortP_perm ps).symm
        · rw [List.pairwise_map]
          refine List.Pairwise.imp (fun {x y} q => ?_) sd
          have q' : SrtO.lexB (kOf F y) (kOf F x) = false := q
          show (!SrtO.lexB (kOf F y) (kOf F x)) = true
          rw [q']; rfl
      have back : RpAll X.K F ((sortP ps).map pairD) ys := by
        rw [← key]
        refine pairs_back fun v m => ?_
        obtain ⟨d, md, rd⟩ := rp_mem r1 v (sb.perm.mem_iff.mp m)
        obtain ⟨p', _, rfl⟩ := List.mem_map.mp md
        rw [(pair_at S.fr rd).1]
        exact rd
      refine po_new S h (by simp only [gSorted, e, e2]) nq ?_ back
      rw [sb.perm.length_eq]
      exact zx⟩
end
end VS

set_option Elab.async false
set_option linter.all false
set_option maxRecDepth 100000
set_option maxHeartbeats 4000000
namespace VS
open PySem PySem.Spec PyProof.Rows L2
/-! ### reading of values, as equations -/
section
variable {α β : Type}
theorem bnd (m : M α) (f : α → M β) (ρ : En) : (m >>= f) ρ = (m ρ).bind fun p => f p.1 p.2 := id rfl
theorem pur (a : α) (ρ : En) : (pure a : M α) ρ = .ok (a, ρ) := id rfl
theorem rb_ok (a : α) (f : α → Res β) : (Res.ok a).bind f = f a := id rfl
theorem rb_exc (c : Str) (f : α → Res β) : (Res.exc c : Res α).bind f = .exc c := id rfl
theorem rb_bad (f : α → Res β) : (Res.bad : Res α).bind f = .bad := id rfl
theorem lft (r : Res α) (ρ : En) : M.lift r ρ = r.bind fun a => .ok (a, ρ) := id rfl
theorem rb_congr {r r' : Res α} {f : α → Res β} (h : r = r') : r.bind f = r'.bind f := by rw [h]
/-- a choice that is looked into only when it is decided -/
def bIf (c : Bool) (a b : Res α) : Res α := if c = true then a else b
theorem bIf_t (a b : Res α) : bIf true a b = a := id rfl
theorem bIf_f (a b : Res α) : bIf false a b = b := id rfl
theorem bIf_congr {c c' : Bool} {a b : Res α} (h : c = c') : bIf c a b = bIf c' a b := by rw [h]
def pIf (p : Prop) [Decidable p] (a : Res α) : Res α := if p then a else .bad
theorem pIf_t {p : Prop} [Decidable p] {a : Res α} (h : p) : pIf p a = a := if_pos h
end
section
variable {α : Type} (ρ : En)
theorem a_int (d : D) : (pure d : M D) ρ = .ok (d, ρ) := id rfl
theorem a_vl (m : M D) : eVl m ρ = (m ρ).bind fun p => .ok (pure p.1, p.2) := id rfl
theorem a_e1 (g : D → Res α) (ma : M (M D)) : e1 g ma ρ = (ma ρ).bind fun p => (p.1 p.2).bind fun q => (g q.1).bind fun a => .ok (a, q.2) := id rfl
theorem a_e2 (g : D → D → Res α) (ma mb : M (M D)) : e2 g ma mb ρ = (ma ρ).bind fun p => (mb p.2).bind fun q => (p.1 q.2).bind fun r => (q.1 r.2).bind fun s => (g r.1 s.1).bind fun a => .ok (a, s.2) := id rfl
theorem a_L (m : M (List D)) : eL m ρ = (m ρ).bind fun p => .ok (.list p.1, p.2) := id rfl
theorem a_nil : (pure [] : M (List D)) ρ = .ok ([], ρ) := id rfl
theorem a_cons (m : M D) (ms : M (List D)) : eCons m ms ρ = (m ρ).bind fun p => (ms p.2).bind fun q => .ok (p.1 :: q.1, q.2) := id rfl
theorem a_tup (m : M (List D)) : eTup m ρ = (m ρ).bind fun p => (few p.1).bind fun d => .ok (.tuple d, p.2) := by
  show ((m ρ).bind fun p => ((few p.1).bind fun a => Res.ok (a, p.2)).bind fun q => Res.ok (PyData.tuple q.1, q.2)) = _
  congr 1; funext p
  cases few p.1 <;> rfl
theorem a_lst (m : M (List D)) : eLst m ρ = (m ρ).bind fun p => (few p.1).bind fun d => .ok (d, p.2) := id rfl
theorem few_ok {ds : List D} (h : ds.length ≤ 64) : few ds = .ok ds := if_pos (Nat.le_trans h (by rw [sizeLine_eq]; decide))
theorem a_B (m : M D) : eB m ρ = (m ρ).bind fun p => (asB p.1).bind fun b => .ok (b, p.2) := id rfl
theorem asB_b (b : Bool) : asB (.bool b) = .ok b := id rfl
theorem a_and (a b : M Bool) : eAnd a b ρ = (a ρ).bind fun p => bIf p.1 (b p.2) (.ok (false, p.2)) := by
  show ((a ρ).bind fun p => (if p.1 = true then b else pure false) p.2) = _
  congr 1; funext p; unfold bIf; split <;> rfl
theorem a_or (a b : M Bool) : eOr a b ρ = (a ρ).bind fun p => bIf p.1 (.ok (true, p.2)) (b p.2) := by
  show ((a ρ).bind fun p => (if p.1 = true then pure true else b) p.2) = _
  congr 1; funext p; unfold bIf; split <;> rfl
theorem a_not (a : M Bool) : eNot a ρ = (a ρ).bind fun p => .ok (!p.1, p.2) := id rfl
theorem a_notV (a : M D) : eNotV a ρ = (eB a ρ).bind fun p => .ok (.bool (!p.1), p.2) := id rfl
theorem a_andV (a b : M D) : eAndV a b ρ = (eB a ρ).bind fun p => bIf p.1 (b p.2) (.ok (.bool false, p.2)) := by
  show ((eB a ρ).bind fun p => (if p.1 = true then b else pure (.bool false)) p.2) = _
  congr 1; funext p; unfold bIf; split <;> rfl
theorem a_orV (a b : M D) : eOrV a b ρ = (eB a ρ).bind fun p => bIf p.1 (.ok (.bool true, p.2)) (b p.2) := by
  show ((eB a ρ).bind fun p => (if p.1 = true then pure (.bool true) else b) p.2) = _
  congr 1; funext p; unfold bIf; split <;> rfl
theorem a_if (t : M Bool) (a b : M D) : eIf t a b ρ = (t ρ).bind fun p => bIf p.1 (a p.2) (b p.2) := by
  show ((t ρ).bind fun p => (if p.1 = true then a else b) p.2) = _
  congr 1; funext p; unfold bIf; split <;> rfl
theorem a_rg1 (ma : M (M D)) : eRg1 ma ρ = (ma ρ).bind fun p => (p.1 p.2).bind fun q => (asI q.1).bind fun n => .ok ((0, n), q.2) := by
  show ((ma ρ).bind fun p => (p.1 p.2).bind fun q => ((asI q.1).bind fun a => Res.ok (a, q.2)).bind fun r => .ok ((0, r.1), r.2)) = _
  congr 1; funext p; congr 1; funext q
  cases asI q.1 <;> rfl
theorem a_rg2 (ma mb : M (M D)) : eRg2 ma mb ρ = (ma ρ).bind fun p => (mb p.2).bind fun q => (p.1 q.2).bind fun r => (q.1 r.2).bind fun s => (asI r.1).bind fun n => (asI s.1).bind fun k => .ok ((n, k), s.2) := by
  show ((ma ρ).bind fun p => (mb p.2).bind fun q => (p.1 q.2).bind fun r => (q.1 r.2).bind fun s => ((asI r.1).bind fun a => Res.ok (a, s.2)).bind fun t => ((asI s.1).bind fun a => Res.ok (a, t.2)).bind fun u => .ok ((t.1, u.1), u.2)) = _
  congr 1; funext p; congr 1; funext q; congr 1; funext r; congr 1; funext s
  cases asI r.1 <;> try rfl
  cases asI s.1 <;> rfl
theorem asI_i (i : Int) : asI (.int i) = .ok i := id rfl
theorem asS_l (ds : List D) : asS (.list ds) = .ok ds := id rfl
theorem asS_t (ds : List D) : asS (.tuple ds) = .ok ds := id rfl
theorem a_call (f : List D → Res D) (ms : M (List D)) : eCall f ms ρ = (ms ρ).bind fun p => (f p.1).bind fun a => .ok (a, p.2) := id rfl
theorem a_callO (f : List D → Res (List D)) (ms : M (List D)) : eCallO f ms ρ = (ms ρ).bind fun p => (match f p.1 with | .ok es => Res.ok es | _ => .bad).bind fun a => .ok (a, p.2) := id rfl
theorem a_callSO (i : Nat) (f : List Int → List D → Res (List D)) (ms : M (List D)) : eCallSO i f ms ρ = (scrAt i ρ).bind fun n => (ms n.2).bind fun p => (match f n.1 p.1 with | .ok es => Res.ok es | _ => .bad).bind fun a => .ok (a, p.2) := id rfl
theorem a_callSV (i : Nat) (f : List Int → List D → Res D) (ms : M (List D)) : eCallSV i f ms ρ = (scrAt i ρ).bind fun n => (ms n.2).bind fun p => (match f n.1 p.1 with | .ok es => Res.ok es | _ => .bad).bind fun a => .ok (a, p.2) := id rfl
theorem a_lenS (i : Nat) : eLenS i ρ = (scrAt i ρ).bind fun n => .ok (.int n.1.length, n.2) := id rfl
theorem a_ixS (i : Nat) (mb : M (M D)) : eIxS i mb ρ = (scrAt i ρ).bind fun n => (mb n.2).bind fun p => (p.1 p.2).bind fun q => (asI q.1).bind fun k => (atS n.1 k).bind fun a => .ok (a, q.2) := by
  show ((scrAt i ρ).bind fun n => (mb n.2).bind fun p => (p.1 p.2).bind fun q => ((asI q.1).bind fun a => Res.ok (a, q.2)).bind fun r => (atS n.1 r.1).bind fun a => .ok (a, r.2)) = _
  congr 1; funext n; congr 1; funext p; congr 1; funext q
  cases asI q.1 <;> rfl
theorem a_callR (i : Nat) (f : List D → List D → Res (D × List D)) (ms : M (List D)) : eCallR i f ms ρ = (isO i ρ).bind fun p => (ms p.2).bind fun q => callO i f q.1 q.2 := id rfl
theorem a_popAt (i : Nat) (m : M D) : ePopAt i m ρ = (isO i ρ).bind fun p => (m p.2).bind fun q => popAtO i q.1 q.2 := id rfl
theorem a_lift {β : Type} (m : M α) (g : α → Res β) : (m >>= fun d => M.lift (g d)) ρ = (m ρ).bind fun p => (g p.1).bind fun a => .ok (a, p.2) := id rfl
theorem a_lift2 {β γ : Type} (m : M α) (m2 : M β) (g : α → β → Res γ) : (m >>= fun d => m2 >>= fun e => M.lift (g d e)) ρ = (m ρ).bind fun p => (m2 p.2).bind fun q => (g p.1 q.1).bind fun a => .ok (a, q.2) := id rfl
/-! ### statements -/
def sqK (b : M Fl) : Fl → M Fl
  | .nx => b
  | .rt d => pure (.rt d)
  | .ro d => pure (.ro d)
  | .bk => pure .bk
  | .ct => pure .ct
theorem a_seq (a b : M Fl) : sSeq a b ρ = (a ρ).bind fun p => sqK b p.1 p.2 := by
  show ((a ρ).bind fun p => (match p.1 with | .nx => b | .rt d => pure (.rt d) | .ro d => pure (.ro d) | .bk => pure .bk | .ct => pure .ct : M Fl) p.2) = _
  congr 1
theorem sq_nx (b : M Fl) : sqK b .nx ρ = b ρ := id rfl
theorem sq_rt (b : M Fl) (d : D) : sqK b (.rt d) ρ = .ok (.rt d, ρ) := id rfl
theorem sq_ro (b : M Fl) (d : List D) : sqK b (.ro d) ρ = .ok (.ro d, ρ) := id rfl
theorem sq_bk (b : M Fl) : sqK b .bk ρ = .ok (.bk, ρ) := id rfl
theorem sq_ct (b : M Fl) : sqK b .ct ρ = .ok (.ct, ρ) := id rfl
theorem a_fl (f : Fl) : (pure f : M Fl) ρ = .ok (f, ρ) := id rfl
theorem a_sif (t : M Bool) (a b : M Fl) : sIf t a b ρ = (t ρ).bind fun p => bIf p.1 (a p.2) (b p.2) := by
  show ((t ρ).bind fun p => (if p.1 = true then a else b) p.2) = _
  congr 1; funext p; unfold bIf; split <;> rfl
theorem a_ret (m : M D) : sRet m ρ = (m ρ).bind fun p => .ok (.rt p.1, p.2) := id rfl
theorem a_retO (m : M (List D)) : sRetO m ρ = (m ρ).bind fun p => .ok (.ro p.1, p.2) := id rfl
theorem a_do (m : M D) : sDo m ρ = (m ρ).bind fun p => .ok (.nx, p.2) := id rfl
theorem a_set (i : Nat) (m : M D) : sSet i m ρ = (m ρ).bind fun p => (setV i p.1 p.2).bind fun q => .ok (.nx, q.2) := id rfl
theorem a_setO (i : Nat) (m : M (List D)) : sSetO i m ρ = (m ρ).bind fun p => (setO i p.1 p.2).bind fun q => .ok (.nx, q.2) := id rfl
theorem a_app (i : Nat) (m : M D) : sApp' i m ρ = (isO i ρ).bind fun o => (m o.2).bind fun p => (appO i p.1 p.2).bind fun q => .ok (.nx, q.2) := id rfl
theorem a_setIx (i : Nat) (mk : M (M D)) (m : M D) : sSetIx i mk m ρ = (m ρ).bind fun p => (isO i p.2).bind fun o => (mk o.2).bind fun k => (k.1 k.2).bind fun q => (setIxO i q.1 p.1 q.2).bind fun r => .ok (.nx, r.2) := id rfl
theorem a_for (mi : M (List D)) (bd : D → M Unit) (body : M Fl) : sFor mi bd body ρ = (mi ρ).bind fun p => forGo bd body p.1 p.2 := id rfl
def parK (i j : Nat) : List D → M Fl
  | [d, e] => setV i d >>= fun _ => setV j e >>= fun _ => pure .nx
  | _ => fun _ => .bad
theorem a_par (i j : Nat) (ms : M (List D)) : sPar i j ms ρ = (ms ρ).bind fun p => parK i j p.1 p.2 := by
  show ((ms ρ).bind fun p => (match p.1 with | [d, e] => setV i d >>= fun _ => setV j e >>= fun _ => pure .nx | _ => fun _ => .bad : M Fl) p.2) = _
  congr 1
theorem par_ok (i j : Nat) (d e : D) : parK i j [d, e] ρ = (setV i d ρ).bind fun p => (setV j e p.2).bind fun q => .ok (.nx, q.2) := id rfl
def bK : Res (Fl × En) → Res D
  | .ok (.rt d, _) => .ok d
  | .ok (.nx, _) => .ok .none
  | .exc c => .exc c
  | _ => .bad
theorem a_runB (n : Nat) (m : M Fl) (ds : List D) : runB n m ds = bK (m (startE n ds)) := by
  unfold runB bK; rfl
def rK : Res (Fl × En) → Res (D × List D)
  | .ok (.rt d, .own ds' :: _) => .ok (d, ds')
  | .ok (.nx, .own ds' :: _) => .ok (.none, ds')
  | _ => .bad
theorem a_runR (n : Nat) (m : M Fl) (ds es : List D) {d : D} {ds' : List D} {ρ' : En} (h : m (startR n ds es) = .ok (.rt d, .own ds' :: ρ')) : runR n m ds es = .ok (d, ds') := by
  unfold runR
  rw [h]
  rfl
theorem a_runSV (n : Nat) (m : M Fl) (ns : List Int) (ds : List D) {d : D} {ρ' : En} (h : m (startS n ns ds) = .ok (.rt d, ρ')) : runSV n m ns ds = .ok d := by
  unfold runSV
  rw [h]
theorem a_runSO (n : Nat) (m : M Fl) (ns : List Int) (ds ds' : List D) {ρ' : En} (h : m (startS n ns ds) = .ok (.ro ds', ρ')) : runSO n m ns ds = .ok ds' := by
  unfold runSO
  rw [h]
theorem a_runBr (n : Nat) (m : M Fl) (ds : List D) {d : D} {ρ' : En} (h : m (startE n ds) = .ok (.rt d, ρ')) : runB n m ds = .ok d := by
  unfold runB
  rw [h]
/-! ### values -/
theorem i_sub (i j : Int) : dSub (.int i) (.int j) = .ok (.int (i - j)) := id rfl
theorem i_add (i j : Int) : dAddL (.int i) (.int j) = .ok (.int (i + j)) := id rfl
theorem i_mul {i j : Int} (h : CMul i j) : dMul (.int i) (.int j) = .ok (.int (i * j)) := if_pos h
theorem i_mod {i j : Int} (h : j ≠ 0) : dMod (.int i) (.int j) = .ok (.int (i.fmod j)) := if_pos h
theorem i_div {i j : Int} (h : CDivN i j) : dDiv (.int i) (.int j) = .ok (.int (i.fdiv j)) := if_pos h
theorem i_pow {i j : Int} (h : CPow i j) : dPow (.int i) (.int j) = .ok (.int (i ^ j.toNat)) := if_pos h
theorem i_neg (i : Int) : dNeg (.int i) = .ok (.int (-i)) := id rfl
theorem i_abs (i : Int) : gAbs (.int i) = .ok (.int (if i < 0 then -i else i)) := id rfl
theorem i_intB (b : Bool) : gInt (.bool b) = .ok (.int (if b then 1 else 0)) := id rfl
theorem i_gt (i j : Int) : dGt (.int i) (.int j) = .ok (.bool (decide (j < i))) := id rfl
theorem i_ge (i j : Int) : dGe (.int i) (.int j) = .ok (.bool (decide (j ≤ i))) := id rfl
theorem i_lt (i j : Int) : dLt (.int i) (.int j) = .ok (.bool (decide (i < j))) := id rfl
theorem i_le (i j : Int) : dLe (.int i) (.int j) = .ok (.bool (decide (i ≤ j))) := id rfl
theorem i_eq (i j : Int) : dEq (.int i) (.int j) = .ok (.bool (decide (i = j))) := by
  have e : (SeqAt.shaped (.int i) && SeqAt.shaped (.int j)) = true := id rfl
  unfold dEq; rw [if_pos e]
  have : PyData.eqv (.int i) (.int j) = decide (i = j) := by first | rfl | (unfold PyData.eqv; rfl) | simp [PyData.eqv]
  rw [this]
theorem i_ne (i j : Int) : dNe (.int i) (.int j) = .ok (.bool (!decide (i = j))) := by
  have e : (SeqAt.shaped (.int i) && SeqAt.shaped (.int j)) = true := id rfl
  unfold dNe; rw [if_pos e]
  have : PyData.eqv (.int i) (.int j) = decide (i = j) := by first | rfl | (unfold PyData.eqv; rfl) | simp [PyData.eqv]
  rw [this]
theorem len_l (ds : List D) : gLen (.list ds) = .ok (.int ds.length) := id rfl
theorem len_t (ds : List D) : gLen (.tuple ds) = .ok (.int ds.length) := id rfl
theorem ix_l {ds : List D} {i : Int} {d : D} (h : atI ds i = some d) : dIx (.list ds) (.int i) = .ok d := by
  show (match atI ds i with | some d => Res.ok d | none => .bad) = _
  rw [h]
theorem ix_t {ds : List D} {i : Int} {d : D} (h : atI ds i = some d) : dIx (.tuple ds) (.int i) = .ok d := by
  show (match atI ds i with | some d => Res.ok d | none => .bad) = _
  rw [h]
theorem tup_l (ds : List D) : gTup (.list ds) = .ok (.tuple ds) := id rfl
theorem i_max (i j : Int) : gMax (.int i) (.int j) = .ok (.int (if j > i then j else i)) := id rfl
theorem i_min (i j : Int) : gMin (.int i) (.int j) = .ok (.int (if j < i then j else i)) := id rfl
theorem isi_ok (T : String) (d : D) : gIsi T d = .ok (.bool (isTy T d)) := id rfl
theorem isis_ok (T : List String) (d : D) : gIsis T d = .ok (.bool (isTys T d)) := id rfl
theorem sv_nil (ρ : En) : setVs [] [] ρ = .ok ((), ρ) := id rfl
theorem sv_cons (i : Nat) (is : List Nat) (d : D) (ds : List D) (ρ : En) : setVs (i :: is) (d :: ds) ρ = (setV i d ρ).bind fun p => setVs is ds p.2 := id rfl
theorem bd_t (is : List Nat) (ds : List D) : bdT is (.tuple ds) = setVs is ds := id rfl
theorem callO_at {i : Nat} {f : List D → List D → Res (D × List D)} {es ds ds' : List D} {d : D} {ρ : En} (h : ρ[i]? = some (.own ds)) (hf : f ds es = .ok (d, ds')) : callO i f es ρ = .ok (d, ρ.set i (.own ds')) := by
  unfold callO
  rw [h]
  simp only [hf]
end
/-! ### loops -/
theorem forGo_nil {bd : D → M Unit} {body : M Fl} (ρ : En) : forGo bd body [] ρ = .ok (.nx, ρ) := id rfl
theorem forGo_nx {bd : D → M Unit} {body : M Fl} {d : D} {ds : List D} {ρ ρ1 ρ2 : En} (h1 : bd d ρ = .ok ((), ρ1)) (h2 : body ρ1 = .ok (.nx, ρ2)) : forGo bd body (d :: ds) ρ = forGo bd body ds ρ2 := by
  show ((bd d >>= fun _ => body >>= fun f => _) : M Fl) ρ = _
  rw [bnd, h1, rb_ok, bnd, h2, rb_ok]
def fgK (bd : D → M Unit) (body : M Fl) (ds : List D) : Fl → M Fl
  | .nx => forGo bd body ds
  | .ct => forGo bd body ds
  | .bk => pure .nx
  | .rt d => pure (.rt d)
  | .ro d => pure (.ro d)
theorem a_forc (bd : D → M Unit) (body : M Fl) (d : D) (ds : List D) (ρ : En) : forGo bd body (d :: ds) ρ = (bd d ρ).bind fun p => (body p.2).bind fun q => fgK bd body ds q.1 q.2 := by
  show ((bd d ρ).bind fun p => (body p.2).bind fun q => (match q.1 with | .nx => forGo bd body ds | .ct => forGo bd body ds | .bk => pure .nx | .rt d => pure (.rt d) | .ro d => pure (.ro d) : M Fl) q.2) = _
  congr 1
theorem fg_nx (bd : D → M Unit) (body : M Fl) (ds : List D) (ρ : En) : fgK bd body ds .nx ρ = forGo bd body ds ρ := id rfl
theorem fg_ct (bd : D → M Unit) (body : M Fl) (ds : List D) (ρ : En) : fgK bd body ds .ct ρ = forGo bd body ds ρ := id rfl
theorem fg_bk (bd : D → M Unit) (body : M Fl) (ds : List D) (ρ : En) : fgK bd body ds .bk ρ = .ok (.nx, ρ) := id rfl
theorem fg_rt (bd : D → M Unit) (body : M Fl) (ds : List D) (d : D) (ρ : En) : fgK bd body ds (.rt d) ρ = .ok (.rt d, ρ) := id rfl
theorem fg_ro (bd : D → M Unit) (body : M Fl) (ds : List D) (d : List D) (ρ : En) : fgK bd body ds (.ro d) ρ = .ok (.ro d, ρ) := id rfl
/-- a loop that runs through, by what holds of the state -/
theorem forGo_inv {bd : D → M Unit} {body : M Fl} (I : List D → En → Prop) (step : ∀ d ds ρ, I (d :: ds) ρ → ∃ ρ1 ρ2, bd d ρ = .ok ((), ρ1) ∧ body ρ1 = .ok (.nx, ρ2) ∧ I ds ρ2) : ∀ (ds : List D) (ρ : En), I ds ρ → ∃ ρ', forGo bd body ds ρ = .ok (.nx, ρ') ∧ I [] ρ'
  | [], ρ, h => ⟨ρ, rfl, h⟩
  | d :: ds, ρ, h => by
    obtain ⟨ρ1, ρ2, e1, e2, h2⟩ := step d ds ρ h
    obtain ⟨ρ', e3, h3⟩ := forGo_inv I step ds ρ2 h2
    exact ⟨ρ', by rw [forGo_nx e1 e2, e3], h3⟩
/-- a comprehension without a test, item by item -/
theorem lcGo_map {vs : List Nat} {bd : D → M Unit} {me : M D} {ρ : En} (g : D → D) : ∀ (ds : List D), (∀ d ∈ ds, ∃ ρ1 ρ2, bd d ρ = .ok ((), ρ1) ∧ me ρ1 = .ok (g d, ρ2) ∧ wipeE ρ2 vs = ρ) → lcGo vs bd mYes me ds ρ = .ok (ds.map g, ρ)
  | [], _ => rfl
  | d :: ds, h => by
    obtain ⟨ρ1, ρ2, e1, e2, e3⟩ := h d List.mem_cons_self
    have ih := lcGo_map g ds fun d m => h d (List.mem_cons_of_mem _ m)
    show ((bd d >>= fun _ => nx mYes >>= fun b => _) : M (List D)) ρ = _
    rw [bnd, e1, rb_ok, bnd]
    show ((nx me >>= fun y => clr vs >>= fun _ => lcGo vs bd mYes me ds >>= fun ys => pure (y :: ys)) : M (List D)) ρ1 = _
    rw [bnd]
    have e4 : nx me ρ1 = .ok (g d, ρ2) := by unfold nx; rw [e2]
    rw [e4, rb_ok, bnd]
    show (((lcGo vs bd mYes me ds >>= fun ys => pure (g d :: ys)) : M (List D)) (wipeE ρ2 vs)) = _
    rw [e3, bnd, ih, rb_ok]
    rfl
theorem eLc_map {vs : List Nat} {mi : M (List D)} {bd : D → M Unit} {me : M D} {ρ ρ1 : En} {ds : List D} (g : D → D) (h0 : mi ρ = .ok (ds, ρ1)) (hn : noOwn ρ1 vs = true) (hl : ds.length ≤ sizeLine)
    (h : ∀ d ∈ ds, ∃ ρ2 ρ3, bd d (wipeE ρ1 vs) = .ok ((), ρ2) ∧ me ρ2 = .ok (g d, ρ3) ∧ wipeE ρ3 vs = wipeE ρ1 vs) : eLc vs mi bd mYes me ρ = .ok (ds.map g, restE ρ1 (wipeE ρ1 vs) vs) := by
  show (mi ρ).bind (fun p => if noOwn p.2 vs = true ∧ p.1.length ≤ sizeLine then (lcGo vs bd mYes me p.1 (wipeE p.2 vs)).bind fun q => .ok (q.1, restE p.2 q.2 vs) else .bad) = _
  rw [h0, rb_ok]
  show (if noOwn ρ1 vs = true ∧ ds.length ≤ sizeLine then (lcGo vs bd mYes me ds (wipeE ρ1 vs)).bind fun q => .ok (q.1, restE ρ1 q.2 vs) else .bad) = _
  rw [if_pos ⟨hn, hl⟩, lcGo_map g ds h, rb_ok]
theorem whGo_end {mt : M Bool} {body : M Fl} {n : Nat} {ρ ρ1 : En} (h : mt ρ = .ok (false, ρ1)) : whGo mt body (n + 1) ρ = .ok (.nx, ρ1) := by
  show ((mt >>= fun c => _) : M Fl) ρ = _
  rw [bnd, h, rb_ok]
  rfl
theorem whGo_step {mt : M Bool} {body : M Fl} {n : Nat} {ρ ρ1 ρ2 : En} (h : mt ρ = .ok (true, ρ1)) (h2 : body ρ1 = .ok (.nx, ρ2)) : whGo mt body (n + 1) ρ = whGo mt body n ρ2 := by
  show ((mt >>= fun c => _) : M Fl) ρ = _
  rw [bnd, h, rb_ok]
  show ((body >>= fun f => _) : M Fl) ρ1 = _
  rw [bnd, h2, rb_ok]
/-! ### rows of whole numbers -/
abbrev dInts (ns : List Int) : List D := ns.map PyData.int
abbrev dTup (ns : List Int) : D := .tuple (dInts ns)
theorem eqv_ints : ∀ ns ms : List Int, PyData.eqvAll (dInts ns) (dInts ms) = decide (ns = ms)
  | [], [] => rfl
  | [], m :: ms => rfl
  | n :: ns, [] => rfl
  | n :: ns, m :: ms => by
    show (PyData.eqv (.int n) (.int m) && PyData.eqvAll (dInts ns) (dInts ms)) = _
    rw [eqv_ints ns ms]
    have : PyData.eqv (.int n) (.int m) = decide (n = m) := by first | rfl | (unfold PyData.eqv; rfl) | simp [PyData.eqv]
    rw [this]
    by_cases e : n = m <;> by_cases e2 : ns = ms <;> simp [e, e2]
theorem at_ints {t : List Int} {i : Int} (h0 : 0 ≤ i) (h1 : i < t.length) : atI (dInts t) i = some (.int (t.getD i.toNat 0)) := by
  have h2 : i.toNat < t.length := by omega
  unfold atI ixN
  rw [List.length_map, if_pos h0, if_pos h1]
  simp [List.getD, h2]
theorem shaped_ints (t : List Int) : SeqAt.shaped (dTup t) = true := by
  have h := PySem.W.shaped_ints t
  unfold SeqAt.shaped at h ⊢
  simpa [PyData.canLay0, PyData.depth] using h
theorem ne_tups (t u : List Int) : dNe (dTup t) (dTup u) = .ok (.bool (!decide (t = u))) := by
  unfold dNe
  rw [if_pos (by rw [shaped_ints, shaped_ints]; rfl)]
  show Res.ok (PyData.bool (!PyData.eqvAll (dInts t) (dInts u))) = _
  rw [eqv_ints]
theorem eq_tups (t u : List Int) : dEq (dTup t) (dTup u) = .ok (.bool (decide (t = u))) := by
  unfold dEq
  rw [if_pos (by rw [shaped_ints, shaped_ints]; rfl)]
  show Res.ok (PyData.bool (PyData.eqvAll (dInts t) (dInts u))) = _
  rw [eqv_ints]
theorem rg_ints (a b : Int) : rgD a b = dInts ((List.range (b - a).toNat).map fun i : Nat => a + (i : Int)) := by
  unfold rgD dInts
  rw [List.map_map]; rfl
theorem rgT_ok {a b : Int} (h : RgOk a b) : gRgT (a, b) = .ok (dTup ((List.range (b - a).toNat).map fun i : Nat => a + (i : Int))) := by
  rw [dTup, ← rg_ints]; exact if_pos h
theorem rgL_ok {a b : Int} (h : RgOk a b) : gRgL (a, b) = .ok (dInts ((List.range (b - a).toNat).map fun i : Nat => a + (i : Int))) := by
  rw [← rg_ints]; exact if_pos h
theorem rg_ok {a b : Int} (h : RgB a b) : gRg (a, b) = .ok (dInts ((List.range (b - a).toNat).map fun i : Nat => a + (i : Int))) := by
  rw [← rg_ints]; exact if_pos h
/-! ### step by step -/
theorem seq_nx {a b : M Fl} {ρ ρ1 : En} {r : Res (Fl × En)} (h : a ρ = .ok (.nx, ρ1)) (h2 : b ρ1 = r) : sSeq a b ρ = r := by
  rw [a_seq, h, rb_ok]; exact h2
theorem seq_rt {a b : M Fl} {ρ ρ1 : En} {d : D} (h : a ρ = .ok (.rt d, ρ1)) : sSeq a b ρ = .ok (.rt d, ρ1) := by
  rw [a_seq, h, rb_ok]; rfl
theorem ret_ok {m : M D} {ρ ρ1 : En} {d : D} (h : m ρ = .ok (d, ρ1)) : sRet m ρ = .ok (.rt d, ρ1) := by
  rw [a_ret, h, rb_ok]
theorem setO_ok {i : Nat} {m : M (List D)} {ρ ρ1 ρ2 : En} {ds : List D} (h : m ρ = .ok (ds, ρ1)) (hi : i < ρ1.length) (h2 : ρ1.set i (.own ds) = ρ2) : sSetO i m ρ = .ok (.nx, ρ2) := by
  rw [a_setO, h, rb_ok]
  unfold setO
  rw [if_pos hi, rb_ok, h2]
theorem set_ok {i : Nat} {m : M D} {ρ ρ1 ρ2 : En} {d : D} (h : m ρ = .ok (d, ρ1)) (hi : i < ρ1.length) (h2 : ρ1.set i (.val d) = ρ2) : sSet i m ρ = .ok (.nx, ρ2) := by
  rw [a_set, h, rb_ok]
  unfold setV
  rw [if_pos hi, rb_ok, h2]
theorem for_ok {mi : M (List D)} {bd : D → M Unit} {body : M Fl} {ρ ρ1 : En} {ds : List D} {r : Res (Fl × En)} (h : mi ρ = .ok (ds, ρ1)) (h2 : forGo bd body ds ρ1 = r) : sFor mi bd body ρ = r := by
  rw [a_for, h, rb_ok]; exact h2
theorem if_f {t : M Bool} {a b : M Fl} {ρ ρ1 : En} {r : Res (Fl × En)} (h : t ρ = .ok (false, ρ1)) (h2 : b ρ1 = r) : sIf t a b ρ = r := by
  rw [a_sif, h, rb_ok]; exact h2
theorem if_t {t : M Bool} {a b : M Fl} {ρ ρ1 : En} {r : Res (Fl × En)} (h : t ρ = .ok (true, ρ1)) (h2 : a ρ1 = r) : sIf t a b ρ = r := by
  rw [a_sif, h, rb_ok]; exact h2
theorem or_f {a b : M Bool} {ρ ρ1 : En} {r : Res (Bool × En)} (h : a ρ = .ok (false, ρ1)) (h2 : b ρ1 = r) : eOr a b ρ = r := by
  rw [a_or, h, rb_ok]; exact h2
theorem par_ok2 {i j : Nat} {ms : M (List D)} {ρ ρ1 ρ2 : En} {d e : D} (h : ms ρ = .ok ([d, e], ρ1)) (hi : i < ρ1.length) (hj : j < ρ1.length) (h2 : (ρ1.set i (.val d)).set j (.val e) = ρ2) : sPar i j ms ρ = .ok (.nx, ρ2) := by
  rw [a_par, h, rb_ok, par_ok]
  unfold setV
  rw [if_pos hi, rb_ok, if_pos (by rw [List.length_set]; exact hj), rb_ok, h2]
end VS

set_option Elab.async false
set_option linter.all false
set_option maxRecDepth 100000
set_option maxHeartbeats 4000000
namespace VS
open PySem PySem.Spec PyProof.Rows L2 HT
/-! ### t[::-1] of a tuple; {0: 1} -/
section
variable {prog : Program} {w : World} {A : Around} {E : Value → Shared → Prop} {s : Shared}
theorem adj_rev (n : Nat) : Builtin.Slice.sliceAdjust none none (-1) (n : Int) = ((n : Int) - 1, -1) := rfl
theorem places_rev (n : Nat) : Builtin.Slice.slicePlaces ((n : Int) - 1) (-1) (-1) = n := by
  unfold Builtin.Slice.slicePlaces
  rw [if_neg (by decide)]
  by_cases h : n = 0
  · subst h; rfl
  · rw [if_pos (by omega)]
    have e : ((n : Int) - 1 - -1 - 1) / - -1 = (n : Int) - 1 := by
      rw [show (- -1 : Int) = 1 from rfl, Int.ediv_one]; omega
    rw [e]; omega
theorem fm_map {α β : Type} {f : α → Option β} {g : α → β} : ∀ l : List α, (∀ k ∈ l, f k = some (g k)) → l.filterMap f = l.map g
  | [], _ => rfl
  | x :: l, h => by
    rw [List.filterMap_cons, h x List.mem_cons_self, List.map_cons, fm_map l fun k m => h k (List.mem_cons_of_mem _ m)]
theorem getD_in {l : List Value} {i : Nat} {d : Value} (h : i < l.length) : l.getD i d = l[i] := by
  rw [List.getD_eq_getElem?_getD, List.getElem?_eq_getElem h]; rfl
theorem pick_rev (xs : Array Value) : ((List.range xs.size).filterMap fun (k : Nat) => xs[((xs.size : Int) - 1 + (k : Int) * -1).toNat]?) = xs.toList.reverse := by
  rw [fm_map (g := fun k => xs.toList.reverse.getD k .none) _ fun k hk => ?_]
  · refine List.ext_getElem (by simp) fun i h1 h2 => ?_
    rw [List.getElem_map, List.getElem_range, getD_in h2]
  · have hk' := List.mem_range.mp hk
    have e : ((xs.size : Int) - 1 + (k : Int) * -1).toNat = xs.size - 1 - k := by omega
    rw [e]
    have h3 : k < xs.toList.reverse.length := by rw [List.length_reverse, Array.length_toList]; exact hk'
    have h2 : xs.size - 1 - k < xs.size := by omega
    rw [Array.getElem?_eq_getElem h2]
    rw [getD_in h3, List.getElem_reverse]
    simp
theorem item_rev {t sl : Addr} {xs : Array Value} {vl vu vs : Value} {Q : Value → Shared → Prop} (ht : IsTup s.heap t xs) (hs : s.heap.IsSliceOf sl vl vu vs) (pl : IsPart vl none) (pu : IsPart vu none) (ps : IsPart vs (some (-1)))
    (h : Q (.ref s.heap.objs.size) { s with heap := s.heap.push { cls := .type "tuple", data := .seq xs.toList.reverse.toArray } }) (hz : xs.size ≤ sizeLine) : wpAny (model prog w) A (getItem (.ref t) (.ref sl)) Q E s := by
  have hk : sizeOk (.seq xs.toList.reverse.toArray) := by
    show xs.toList.reverse.toArray.size ≤ sizeLine
    rw [List.size_toArray, List.length_reverse, Array.length_toList]; exact hz
  obtain ⟨os, hos, hcs, hds⟩ := id hs; have hT : s.TypeIs (.ref sl) "slice" := ⟨os, hos, hcs⟩
  unfold getItem; try with_reducible refine wpAny_holding ?_
  first | (refine wpAny_bind (wpAny_pure ?_); refine wpAny_bind (wpAny_sequenceKey ht.typeIs (by decide) ?_)) | refine wpAny_bind (wpAny_sequenceKey ht.typeIs (by decide) ?_)
  refine wpAny_bind (wpAny_callSpecial?_slot (name := Str.ofString "__getitem__") ht.typeIs PyProof.Rows.slot_tuple_getitem (wpAny_call_entry PyProof.Rows.slot_tuple_getitem ht.typeIs entry_tuple_getitem ?_ (args_tuple_getitem _ _)))
  show wpAny _ _ (Builtin.Tuple.tupleItemsOf (.ref t) >>= _) _ _ s; refine wpAny_bind (tupleItemsOf_ ht ?_); refine wpAny_bind (wpAny_typeOf hT ?_); rw [if_pos (by decide)]
  have ap : ∀ (A' : Around) (E' : Value → Shared → Prop) (R : Int × Int × Nat → Shared → Prop), R ((xs.size : Int) - 1, -1, xs.size) s → wpAny (model prog w) A' (Builtin.Slice.sliceApplied (.ref sl) (pure (xs.size : Int))) R E' s := fun A' E' R hR => by
    unfold Builtin.Slice.sliceApplied Builtin.Slice.sliceFields
    refine wpAny_bind (wpAny_bind (wpAny_field hos hds (x := vl) rfl (wpAny_bind (wpAny_field hos hds (x := vu) rfl (wpAny_bind (wpAny_field hos hds (x := vs) rfl (wpAny_pure ?_)))))))
    refine wpAny_bind (slicePart_ ps ?_)
    show wpAny _ _ (if ((-1 : Int) == 0) = true then _ else _) _ _ s; rw [if_neg (by decide)]
    refine wpAny_bind (slicePart_ pl (wpAny_bind (slicePart_ pu (wpAny_bind (wpAny_pure ?_)))))
    show wpAny _ _ (match Builtin.Slice.sliceAdjust none none (-1) (xs.size : Int) with | (lo, hi) => pure (lo, (-1 : Int), Builtin.Slice.slicePlaces lo hi (-1))) _ _ s
    rw [adj_rev]
    show wpAny _ _ (pure ((xs.size : Int) - 1, (-1 : Int), Builtin.Slice.slicePlaces ((xs.size : Int) - 1) (-1) (-1))) _ _ s
    rw [places_rev]; exact wpAny_pure hR
  refine wpAny_bind (ap _ _ _ ?_)
  have hno : ¬ (((xs.size : Int) - 1 == 0 && (-1 : Int) == 1 && xs.size == xs.size) = true) := by
    rw [show ((-1 : Int) == 1) = false from rfl, Bool.and_false, Bool.false_and]; exact Bool.false_ne_true
  show wpAny _ _ (if ((xs.size : Int) - 1 == 0 && (-1 : Int) == 1 && xs.size == xs.size) = true then _ else _) _ _ s
  rw [if_neg hno, pick_rev]
  first
    | exact wpAny_bind (m := Builtin.Tuple.tupleExact _) (wpAny_newObj_type (wpAny_pure ⟨_, rfl, wpAny_pure h⟩) hk)
    | exact wpAny_bind (m := Builtin.Tuple.tupleExact _) (wpAny_newObj_type (wpAny_bind (wpAny_pure (wpAny_pure ⟨_, rfl, wpAny_pure h⟩))) hk)
    | exact wpAny_bind (wpAny_bind (m := Builtin.Tuple.tupleExact _) (wpAny_newObj_type (wpAny_pure (wpAny_pure ⟨_, rfl, wpAny_pure h⟩)) hk))
    | exact wpAny_bind (wpAny_bind (m := Builtin.Tuple.tupleExact _) (wpAny_newObj_type (wpAny_pure ⟨_, rfl, wpAny_pure h⟩) hk))
end
section
variable {X : Cx} {C : SC}
def tRevT (K : PySem.W.Frag) (te : TE) : TE := fun σ H Q => te σ H fun x H1 => ∃ a xs, x = .ref a ∧ SqT K H1 a xs ∧ ∀ p, H1 p = none → Q (.ref p) (upd H1 p (.tup xs.reverse))
theorem pe_revT {e : Expr} {te : TE} {k : Nat} {p1 p2 p3 pos : Pos} (he : PE X e te) : PE X (.Subscript e (.Slice none none (some (.UnaryOp .USub (.Constant (.int 1) k p1) p2)) p3) pos) (tRevT X.K te) := by
  refine ⟨fun pins s σ H Q I h => ?_⟩
  refine Subscript_ (thn (he.run pins s σ H _ I h) fun v s1 ⟨x, H1, I1, r1, a, xs, ex, hx, q⟩ => ?_)
  subst ex; cases r1
  have st : L2.PO X (some (.UnaryOp .USub (.Constant (.int 1) k p1) p2)) (tPart (tUn (rU fun i => .int (-i)) (tC (.int 1)))) := po_some (pe_un un_neg pe_int)
  refine wpAny_Slice (thn (po_none.run pins s1 σ H1 (fun o H2 => o = none ∧ H2 = H1) I1 ⟨rfl, rfl⟩) fun vl s2 ⟨l, H2, I2, pl, el, e2⟩ => ?_); subst el e2
  refine thn (po_none.run pins s2 σ H2 (fun o H3 => o = none ∧ H3 = H2) I2 ⟨rfl, rfl⟩) fun vu s3 ⟨u, H3, I3, pu, eu, e3⟩ => ?_; subst eu e3
  refine thn (st.run pins s3 σ H3 (fun o H4 => o = some (-1) ∧ H4 = H3) I3 ⟨1, rfl, -1, rfl, rfl, rfl⟩) fun vs s4 ⟨o, H4, I4, ps, eo, e4⟩ => ?_; subst eo e4
  have I5 : Inv X pins σ H4 { s4 with heap := s4.heap.push { cls := .type "slice", data := .fields #[vl, vu, vs] } } := I4.kept (t' := s4.toks) fun b ob q => Heap.get?_push_of_some _ q
  obtain ⟨its, r, ht, hz⟩ := I5.tuple hx
  have hlen := r.length
  show wpAny (model X.prog X.w) X.A (subscriptTail e (.Slice none none (some (.UnaryOp .USub (.Constant (.int 1) k p1) p2)) p3) (.ref a) (.ref s4.heap.objs.size)) (EP X pins σ Q) X.xe { s4 with heap := s4.heap.push { cls := .type "slice", data := .fields #[vl, vu, vs] } }
  refine tail_any (ops := [.ref a, .ref s4.heap.objs.size]) ht.typeIs (PyProof.Rows.slot_tuple_getitem.lookup) ?_ (by with_unfolding_all rfl)
  refine item_rev ht (Heap.IsSliceOf.new _ vl vu vs) pl pu ps ?_ (by rw [List.size_toArray, ← hlen]; exact hz)
  refine ⟨.ref _, _, I5.laid (t' := s4.toks) (o := .tup xs.reverse) (fun b ob q => Heap.get?_push_of_some _ q) (Nat.le_refl _) ?_, rfl, q _ (I5.hok.fresh (Nat.le_refl _))⟩
  exact ⟨by rw [List.length_reverse]; exact hz, _, r.reverse, IsTup.new _ _⟩
def dRev : D → Res D
  | .tuple xs => .ok (.tuple xs.reverse)
  | _ => .bad
theorem m_rev {e : Expr} {ma : M (M D)} {k : Nat} {p1 p2 p3 pos : Pos} (he : PE X e (tL X.K C ma)) : PE X (.Subscript e (.Slice none none (some (.UnaryOp .USub (.Constant (.int 1) k p1) p2)) p3) pos) (tM X.K C (e1 dRev ma)) :=
  pe_imp (pe_revT he) fun σ H Q ⟨B, F, ρ, S, q⟩ => by
    refine tL.of S q.bind fun l ρ1 h1 v F1 H1 s1 S1 r1 => ?_
    obtain ⟨d, rd, h2⟩ := late_step S1 r1 h1
    cases d <;> try exact (RX.bad_elim (show RX C B _ (M.lift _ ρ1) from h2) rfl).elim
    obtain ⟨p, xs, rfl, fp, hp, zx, r⟩ := rpv_tup S1.fr rd
    refine ⟨p, xs, rfl, .of hp, fun np hn => ?_⟩
    exact pd_new (d := .tuple _) S1 (h2.imp fun _ _ q => q.mono s1) rfl hn ⟨np, _, rfl, upd_same, by rw [List.length_reverse]; exact zx, r.reverse.mono (same_upd (S1.fresh hn).1)⟩
theorem m_dict1 {k v : Int} {j i : Nat} {p1 p2 pos : Pos} : PE X (.Dict [some (.Constant (.int k) j p1)] [.Constant (.int v) i p2] pos) (tM X.K C (pure (.dict [(.int k, .int v)]))) :=
  pe_imp (pe_disp (pps_cons (tk := tC (.int k)) (tv := tC (.int v)) pe_int pe_int pps_nil) rfl rfl (by simp) (by simp)) fun σ H Q ⟨B, F, ρ, S, q⟩ => by
    intro p hp
    refine ⟨upd_same, [(.inl k, .int v)], rfl, by simp, ?_⟩
    rw [upd_upd]
    exact pd_new (r := .ok (.dict [(.int k, .int v)])) (d := .dict [(.int k, .int v)]) S q rfl hp ⟨p, _, rfl, upd_same, _, _, _, rfl, rfl, rfl, rfl⟩
end
end VS

set_option Elab.async false
set_option linter.all false
set_option maxRecDepth 100000
set_option maxHeartbeats 4000000
namespace LW
open PySem PySem.Spec PyProof.Rows L2 VS
def topS (i : Nat) : Stmt := PySem.Challenge.pw_twinriddles_k21_turnings_looked_at.main.body.getD i (.Pass ⟨0, 0, 0, 0⟩)
def fuel : Nat := 100000
structure Txt (K : PySem.W.Frag) (mg : Str → Option Value) : Prop where
  n_abs : mg "abs" = none
  n_all : mg "all" = none
  n_bool : mg "bool" = none
  n_int : mg "int" = none
  n_isinstance : mg "isinstance" = none
  n_len : mg "len" = none
  n_list : mg "list" = none
  n_max : mg "max" = none
  n_min : mg "min" = none
  n_range : mg "range" = none
  n_sorted : mg "sorted" = none
  n_tuple : mg "tuple" = none
  n_zip : mg "zip" = none
section
variable {P : Program} {w : World} {K : PySem.W.Frag} {mg : Str → Option Value} {base : Heap}
abbrev s_is_whole : Stmt := topS 1
theorem sc_is_whole : FnScope ["thing"] ["thing"] (defScope s_is_whole) := ⟨rfl, rfl, rfl, by decide +kernel, rfl, by decide +kernel, by decide +kernel⟩
def m_is_whole : M Fl :=
  (sRet (eAndV (e1 (gIsi "int") (eNm 0)) (eNotV (e1 (gIsi "bool") (eNm 0)))))
def f_is_whole : List D → Res D := runB 1 m_is_whole
theorem d_is_whole (T : Txt K mg)  {fa : Addr} {fd : FuncData} (F : FnP K "is_whole" s_is_whole fa fd) (gm : mg "is_whole" = some (.ref fa)) : DefV P w K mg base 1 "is_whole" 1 f_is_whole :=
  ⟨fa, fd, ["thing"], gm, F.kp, (F.bindsN (ps := ["thing"]) fun _ _ _ _ _ _ us hl => match us, hl with | [_], _ => rfl), fn_V (k := 0) F sc_is_whole (fun cdv A outer s H E c =>
  (mss_one (ms_ret (m_and (m_isi (T := "int") (by decide) T.n_isinstance T.n_int (m_nm 0)) (m_one (m_not (m_isi (T := "bool") (by decide) T.n_isinstance T.n_bool (m_nm 0))))))))⟩

abbrev s_is_turning : Stmt := topS 3
theorem sc_is_turning : FnScope ["names", "thing", "one"] ["names", "thing"] (defScope s_is_turning) := ⟨rfl, rfl, rfl, by decide +kernel, rfl, by decide +kernel, by decide +kernel⟩
def m_is_turning : M Fl :=
  (sSeq (sIf (eOr (eNot (eB (e1 (gIsi "tuple") (eNm 1)))) (eOr (eB (e2 dNe (eVl (e1 gLen (eNm 1))) (eNm 0))) (eNot (eB (e1 (gBools fun bs => bs.all id) (eVl (eL (eLc [2] ((eVar 1) >>= fun d => M.lift (asS d)) (setV 2) mYes (eCall f_is_whole (eCons (eVar 2) (pure []))))))))))) (sRet (pure (.bool false))) (pure .nx))
  (sRet (e2 dEq (eVl (eL (e1 gSorted (eVl (eL (eLc [2] ((eVar 1) >>= fun d => M.lift (asS d)) (setV 2) mYes (e1 gAbs (eNm 2)))))))) (eVl (eL ((eRg2 (eVl (pure (.int 1))) (eVl (e2 dAddL (eNm 0) (eVl (pure (.int 1)))))) >>= fun p => M.lift (gRgL p)))))))
def f_is_turning : List D → Res D := runB 3 m_is_turning
theorem d_is_turning (T : Txt K mg) (G_is_whole : DefV P w K mg base 1 "is_whole" 1 f_is_whole) {fa : Addr} {fd : FuncData} (F : FnP K "is_turning" s_is_turning fa fd) (gm : mg "is_turning" = some (.ref fa)) : DefV P w K mg base 2 "is_turning" 2 f_is_turning :=
  ⟨fa, fd, ["names", "thing"], gm, F.kp, (F.bindsN (ps := ["names", "thing"]) fun _ _ _ _ _ _ us hl => match us, hl with | [_, _], _ => rfl), fn_V (k := 1) F sc_is_turning (fun cdv A outer s H E c =>
  (mss_cons (ms_if (PW.pt (mt_or (mt_not (mt_val (m_isi (T := "tuple") (by decide) T.n_isinstance T.n_tuple (m_nm 1)))) (mt_or (mt_cmp (o_ne c.units) (m_vl (m_callB1 f_len T.n_len (m_nm 1))) (m_nm 0) (nomark _)) (pw_or1 (mt_not (mt_val (m_callB1 (f_all c.calm) T.n_all (m_vl (m_frz (m_lcO (own := [("one", 2)]) (fun _ _ _ => setV_exc) (by decide) (fun _ _ => .inl rfl) c.calm c.nd (mi_seq (m_var 1 (.inl rfl))) (blkOk_by (by kernel_rfl)) (fun s1 H1 L1 cl1 fp1 => (mg_name 2 (.inl rfl) (c.blk s1 H1 _ _ fp1).nd)) (fun s1 H1 L1 cl1 fp1 => mts_nil) (fun s1 H1 L1 cl1 fp1 => (mv_call G_is_whole (c.blk s1 H1 _ _ fp1) (by decide) (an_cons (m_var 2 (.inl rfl)) an_nil))))))))))))) (mss_one (ms_ret m_bl)) mss_nil) (mss_one (ms_ret (m_cmp (o_eq c.units) (m_vl (m_frz (m_callB1O f_sorted T.n_sorted (m_vl (m_frz (m_lcO (own := [("one", 2)]) (fun _ _ _ => setV_exc) (by decide) (fun _ _ => .inl rfl) c.calm c.nd (mi_seq (m_var 1 (.inl rfl))) (blkOk_by (by kernel_rfl)) (fun s2 H2 L2 cl2 fp2 => (mg_name 2 (.inl rfl) (c.blk s2 H2 _ _ fp2).nd)) (fun s2 H2 L2 cl2 fp2 => mts_nil) (fun s2 H2 L2 cl2 fp2 => (m_callB1 f_abs T.n_abs (m_nm 2))))))))) (m_vl (m_frz (m_listRg c.calm T.n_list (rg2 T.n_range (m_vl m_int) (m_vl (m_op o_addL (m_nm 0) (m_vl m_int))))))) (nomark _))))))⟩

abbrev s_led_sign : Stmt := topS 4
theorem sc_led_sign : FnScope ["turning", "sign"] ["turning", "sign"] (defScope s_led_sign) := ⟨rfl, rfl, rfl, by decide +kernel, rfl, by decide +kernel, by decide +kernel⟩
def m_led_sign : M Fl :=
  (sSeq (sIf (eB (e2 dGt (eNm 1) (eVl (pure (.int 0))))) (sRet (e2 dIx (eNm 0) (eVl (e2 dSub (eNm 1) (eVl (pure (.int 1))))))) (pure .nx))
  (sRet (e2 dSub (eVl (pure (.int 0))) (eVl (e2 dIx (eNm 0) (eVl (e2 dSub (eVl (e2 dSub (eVl (pure (.int 0))) (eNm 1))) (eVl (pure (.int 1))))))))))
def f_led_sign : List D → Res D := runB 2 m_led_sign
theorem d_led_sign (T : Txt K mg)  {fa : Addr} {fd : FuncData} (F : FnP K "led_sign" s_led_sign fa fd) (gm : mg "led_sign" = some (.ref fa)) : DefV P w K mg base 1 "led_sign" 2 f_led_sign :=
  ⟨fa, fd, ["turning", "sign"], gm, F.kp, (F.bindsN (ps := ["turning", "sign"]) fun _ _ _ _ _ _ us hl => match us, hl with | [_, _], _ => rfl), fn_V (k := 0) F sc_led_sign (fun cdv A outer s H E c =>
  (mss_cons (ms_if (mt_cmp o_gt (m_nm 1) (m_vl m_int) (nomark _)) (mss_one (ms_ret (m_ix (m_nm 0) (m_vl (m_op o_sub (m_nm 1) (m_vl m_int)))))) mss_nil) (mss_one (ms_ret (m_op o_sub (m_vl m_int) (m_vl (m_ix (m_nm 0) (m_vl (m_op o_sub (m_vl (m_op o_sub (m_vl m_int) (m_nm 1))) (m_vl m_int))))))))))⟩

abbrev s__law_cell_at : Stmt := topS 6
theorem sc__law_cell_at : FnScope ["_law_script", "_law_k"] ["_law_script", "_law_k"] (defScope s__law_cell_at) := ⟨rfl, rfl, rfl, by decide +kernel, rfl, by decide +kernel, by decide +kernel⟩
def m__law_cell_at : M Fl :=
  (sSeq (sIf (eB (e2 dLt (eNm 1) (eVl (eLenS 0)))) (sRet (eIxS 0 (eNm 1))) (pure .nx))
  (sRet (pure (.int 0))))
def f__law_cell_at : List Int → List D → Res D := runSV 2 m__law_cell_at
theorem d__law_cell_at (T : Txt K mg)  {fa : Addr} {fd : FuncData} (F : FnP K "_law_cell_at" s__law_cell_at fa fd) (gm : mg "_law_cell_at" = some (.ref fa)) : DefSV P w K mg base 1 "_law_cell_at" 1 f__law_cell_at :=
  ⟨fa, fd, ["_law_script", "_law_k"], gm, F.kp, (F.bindsN (ps := ["_law_script", "_law_k"]) fun _ _ _ _ _ _ us hl => match us, hl with | [_, _], _ => rfl), by
  rw [show f__law_cell_at = runSV (["_law_script", "_law_k"] : List Str).length m__law_cell_at from rfl]
  exact fn_SV (k := 0) F sc__law_cell_at rfl (fun cdv A outer s H E c =>
  (mss_cons (ms_if (mt_cmp (o_lt c.units0) (m_nm 1) (m_vl (m_lenS 0 T.n_len)) (nomark _)) (mss_one (ms_ret (m_ixS 0 (m_nm 1)))) mss_nil) (mss_one (ms_ret m_int))))⟩

abbrev s__law_state : Stmt := topS 7
theorem sc__law_state : FnScope ["_law_script", "_law_k", "_law_cell"] ["_law_script", "_law_k"] (defScope s__law_state) := ⟨rfl, rfl, rfl, by decide +kernel, rfl, by decide +kernel, by decide +kernel⟩
def m__law_state : M Fl :=
  (sSeq (sSet 2 (eCallSV 0 f__law_cell_at (eCons (eVar 1) (pure []))))
  (sSeq (sIf (eB (e2 dGe (eNm 2) (eVl (e2 dPow (eVl (pure (.int 10))) (eVl (pure (.int 18))))))) (sRetO (eLst (eCons (e2 dSub (eNm 2) (eVl (e2 dPow (eVl (pure (.int 10))) (eVl (pure (.int 18)))))) (eCons (pure (.bool true)) (pure []))))) (pure .nx))
  (sRetO (eLst (eCons (e2 dMod (eNm 2) (eVl (pure (.int 2147483647)))) (eCons (pure (.bool false)) (pure [])))))))
def f__law_state : List Int → List D → Res (List D) := runSO 3 m__law_state
theorem d__law_state (T : Txt K mg) (G__law_cell_at : DefSV P w K mg base 1 "_law_cell_at" 1 f__law_cell_at) {fa : Addr} {fd : FuncData} (F : FnP K "_law_state" s__law_state fa fd) (gm : mg "_law_state" = some (.ref fa)) : DefSO P w K mg base 2 "_law_state" 1 f__law_state :=
  ⟨fa, fd, ["_law_script", "_law_k"], gm, F.kp, (F.bindsN (ps := ["_law_script", "_law_k"]) fun _ _ _ _ _ _ us hl => match us, hl with | [_, _], _ => rfl), by
  rw [show f__law_state = runSO (["_law_script", "_law_k", "_law_cell"] : List Str).length m__law_state from rfl]
  exact fn_SO (k := 1) F sc__law_state rfl (fun cdv A outer s H E c =>
  (mss_cons (ms_set 2 (.inl rfl) c.nd (mvS_call 0 G__law_cell_at c (by decide) (an_cons (m_var 1 (.inl rfl)) an_nil))) (mss_cons (ms_if (mt_cmp o_ge (m_nm 2) (m_vl (m_op o_pow (m_vl m_int) (m_vl m_int))) (nomark _)) (mss_one (ms_retO (m_lstO (ma_cons (m_op o_sub (m_nm 2) (m_vl (m_op o_pow (m_vl m_int) (m_vl m_int)))) (ma_cons m_bl ma_nil))))) mss_nil) (mss_one (ms_retO (m_lstO (ma_cons (m_op o_mod (m_nm 2) (m_vl m_int)) (ma_cons m_bl ma_nil))))))))⟩

abbrev s__law_take : Stmt := topS 8
theorem sc__law_take : FnScope ["_law_state_here", "_law_many", "_law_mixed", "_law_found"] ["_law_state_here", "_law_many"] (defScope s__law_take) := ⟨rfl, rfl, rfl, by decide +kernel, rfl, by decide +kernel, by decide +kernel⟩
def m__law_take : M Fl :=
  (sSeq (sIf (eB (e2 dIx (eNm 0) (eVl (pure (.int 1))))) (sSeq (sSet 3 (e2 dMod (eVl (e2 dIx (eNm 0) (eVl (pure (.int 0))))) (eNm 1)))
  (sSeq (sSetIx 0 (eVl (pure (.int 0))) (e2 dDiv (eVl (e2 dIx (eNm 0) (eVl (pure (.int 0))))) (eNm 1)))
  (sRet (eVar 3)))) (pure .nx))
  (sSeq (sSetIx 0 (eVl (pure (.int 0))) (e2 dMod (eVl (e2 dAddL (eVl (e2 dMul (eVl (e2 dIx (eNm 0) (eVl (pure (.int 0))))) (eVl (pure (.int 48271))))) (eVl (pure (.int 29))))) (eVl (pure (.int 2147483647)))))
  (sSeq (sSet 2 (e2 dMod (eVl (e2 dAddL (eVl (e2 dAddL (eVl (e2 dMul (eVl (e2 dIx (eNm 0) (eVl (pure (.int 0))))) (eVl (e2 dIx (eNm 0) (eVl (pure (.int 0))))))) (eVl (e2 dMul (eVl (pure (.int 39373))) (eVl (e2 dIx (eNm 0) (eVl (pure (.int 0))))))))) (eVl (pure (.int 7))))) (eVl (pure (.int 2147483629)))))
  (sSeq (sSet 2 (e2 dMod (eVl (e2 dAddL (eVl (e2 dMul (eNm 2) (eNm 2))) (eVl (e2 dMul (eVl (pure (.int 16807))) (eNm 2))))) (eVl (pure (.int 2147483587)))))
  (sRet (e2 dMod (eVl (e2 dDiv (eNm 2) (eVl (pure (.int 8))))) (eNm 1)))))))
def f__law_take : List D → List D → Res (D × List D) := runR 4 m__law_take
theorem d__law_take (T : Txt K mg)  {fa : Addr} {fd : FuncData} (F : FnP K "_law_take" s__law_take fa fd) (gm : mg "_law_take" = some (.ref fa)) : DefR P w K mg base 1 "_law_take" 1 f__law_take :=
  ⟨fa, fd, ["_law_state_here", "_law_many"], gm, F.kp, (F.bindsN (ps := ["_law_state_here", "_law_many"]) fun _ _ _ _ _ _ us hl => match us, hl with | [_, _], _ => rfl), fn_R (k := 0) F sc__law_take rfl (fun cdv A outer s H E p c =>
  (mss_cons (ms_if (mt_val (m_ix (m_nm 0) (m_vl m_int))) (mss_cons (ms_set 3 (.inr (by decide)) c.nd (m_op o_mod (m_vl (m_ix (m_nm 0) (m_vl m_int))) (m_nm 1))) (mss_cons (ms_setIx 0 (m_op o_div (m_vl (m_ix (m_nm 0) (m_vl m_int))) (m_nm 1)) (m_vl m_int)) (mss_one (ms_ret (m_var 3 (.inr (by decide))))))) mss_nil) (mss_cons (ms_setIx 0 (m_op o_mod (m_vl (m_op o_addL (m_vl (m_op o_mul (m_vl (m_ix (m_nm 0) (m_vl m_int))) (m_vl m_int))) (m_vl m_int))) (m_vl m_int)) (m_vl m_int)) (mss_cons (ms_set 2 (.inr (by decide)) c.nd (m_op o_mod (m_vl (m_op o_addL (m_vl (m_op o_addL (m_vl (m_op o_mul (m_vl (m_ix (m_nm 0) (m_vl m_int))) (m_vl (m_ix (m_nm 0) (m_vl m_int))))) (m_vl (m_op o_mul (m_vl m_int) (m_vl (m_ix (m_nm 0) (m_vl m_int))))))) (m_vl m_int))) (m_vl m_int))) (mss_cons (ms_set 2 (.inr (by decide)) c.nd (m_op o_mod (m_vl (m_op o_addL (m_vl (m_op o_mul (m_nm 2) (m_nm 2))) (m_vl (m_op o_mul (m_vl m_int) (m_nm 2))))) (m_vl m_int))) (mss_one (ms_ret (m_op o_mod (m_vl (m_op o_div (m_nm 2) (m_vl m_int))) (m_nm 1)))))))))⟩

abbrev s__law_turning : Stmt := topS 9
theorem sc__law_turning : FnScope ["_law_state_here", "_law_names", "_law_rest", "_law_found", "_law_turn"] ["_law_state_here", "_law_names"] (defScope s__law_turning) := ⟨rfl, rfl, rfl, by decide +kernel, rfl, by decide +kernel, by decide +kernel⟩
def m__law_turning : M Fl :=
  (sSeq (sSetO 2 ((eRg2 (eVl (pure (.int 1))) (eVl (e2 dAddL (eNm 1) (eVl (pure (.int 1)))))) >>= fun p => M.lift (gRgL p)))
  (sSeq (sSetO 3 (eLst (pure [])))
  (sSeq (sFor (eRg1 (eNm 1) >>= fun p => M.lift (gRg p)) (setV 4) (sApp' 3 (e2 dMul (eVl (ePopAt 2 (eCallR 0 f__law_take (eCons (e1 gLen (eNm 2)) (pure []))))) (eVl (e2 dIx (eVl (eL (eLst (eCons (pure (.int 1)) (eCons (e1 dNeg (eVl (pure (.int 1)))) (pure [])))))) (eVl (eCallR 0 f__law_take (eCons (pure (.int 2)) (pure [])))))))))
  (sRet (e1 gTup (eNm 3))))))
def f__law_turning : List D → List D → Res (D × List D) := runR 5 m__law_turning
theorem d__law_turning (T : Txt K mg) (G__law_take : DefR P w K mg base 1 "_law_take" 1 f__law_take) {fa : Addr} {fd : FuncData} (F : FnP K "_law_turning" s__law_turning fa fd) (gm : mg "_law_turning" = some (.ref fa)) : DefR P w K mg base 2 "_law_turning" 1 f__law_turning :=
  ⟨fa, fd, ["_law_state_here", "_law_names"], gm, F.kp, (F.bindsN (ps := ["_law_state_here", "_law_names"]) fun _ _ _ _ _ _ us hl => match us, hl with | [_, _], _ => rfl), fn_R (k := 1) F sc__law_turning rfl (fun cdv A outer s H E p c =>
  (mss_cons (ms_setO 2 (.inr (by decide)) c.nd (m_listRg c.calm T.n_list (rg2 T.n_range (m_vl m_int) (m_vl (m_op o_addL (m_nm 1) (m_vl m_int)))))) (mss_cons (ms_setO 3 (.inr (by decide)) c.nd (m_lstO ma_nil)) (mss_cons (ms_for (fun _ _ _ => setV_exc) c.own c.calm (mi_rg1 T.n_range (m_nm 1)) (mg_name 4 (.inr (by decide)) c.nd) (mss_one (ms_app 3 (m_op o_mul (m_vl (m_popAt 2 (mr_call 0 G__law_take c (by decide) (an_cons (m_callB1 f_len T.n_len (m_nm 2)) an_nil)))) (m_vl (m_ix (m_vl (m_frz (m_lstO (ma_cons m_int (ma_cons (m_neg (m_vl m_int)) ma_nil))))) (m_vl (mr_call 0 G__law_take c (by decide) (an_cons m_int an_nil))))))))) (mss_one (ms_ret (m_callT1 f_tuple T.n_tuple (m_nm 3))))))))⟩

abbrev s__law_led_sign : Stmt := topS 10
theorem sc__law_led_sign : FnScope ["_law_turning_here", "_law_sign"] ["_law_turning_here", "_law_sign"] (defScope s__law_led_sign) := ⟨rfl, rfl, rfl, by decide +kernel, rfl, by decide +kernel, by decide +kernel⟩
def m__law_led_sign : M Fl :=
  (sRet (e2 dMul (eVl (e2 dIx (eNm 0) (eVl (e2 dSub (eVl (e1 gAbs (eNm 1))) (eVl (pure (.int 1))))))) (eVl (e2 dIx (eVl (eL (eLst (eCons (pure (.int 1)) (eCons (e1 dNeg (eVl (pure (.int 1)))) (pure [])))))) (eVl (e1 gInt (eVl (e2 dLt (eNm 1) (eVl (pure (.int 0)))))))))))
def f__law_led_sign : List D → Res D := runB 2 m__law_led_sign
theorem d__law_led_sign (T : Txt K mg)  {fa : Addr} {fd : FuncData} (F : FnP K "_law_led_sign" s__law_led_sign fa fd) (gm : mg "_law_led_sign" = some (.ref fa)) : DefV P w K mg base 1 "_law_led_sign" 2 f__law_led_sign :=
  ⟨fa, fd, ["_law_turning_here", "_law_sign"], gm, F.kp, (F.bindsN (ps := ["_law_turning_here", "_law_sign"]) fun _ _ _ _ _ _ us hl => match us, hl with | [_, _], _ => rfl), fn_V (k := 0) F sc__law_led_sign (fun cdv A outer s H E c =>
  (mss_one (ms_ret (m_op o_mul (m_vl (m_ix (m_nm 0) (m_vl (m_op o_sub (m_vl (m_callB1 f_abs T.n_abs (m_nm 1))) (m_vl m_int))))) (m_vl (m_ix (m_vl (m_frz (m_lstO (ma_cons m_int (ma_cons (m_neg (m_vl m_int)) ma_nil))))) (m_vl (m_callT1 f_int T.n_int (m_vl (m_cmp (o_lt c.units0) (m_nm 1) (m_vl m_int) (nomark _)))))))))))⟩

abbrev s__law_whole : Stmt := topS 11
theorem sc__law_whole : FnScope ["_law_thing"] ["_law_thing"] (defScope s__law_whole) := ⟨rfl, rfl, rfl, by decide +kernel, rfl, by decide +kernel, by decide +kernel⟩
def m__law_whole : M Fl :=
  (sRet (eAndV (e1 (gIsi "int") (eNm 0)) (eNotV (e1 (gIsi "bool") (eNm 0)))))
def f__law_whole : List D → Res D := runB 1 m__law_whole
theorem d__law_whole (T : Txt K mg)  {fa : Addr} {fd : FuncData} (F : FnP K "_law_whole" s__law_whole fa fd) (gm : mg "_law_whole" = some (.ref fa)) : DefV P w K mg base 1 "_law_whole" 1 f__law_whole :=
  ⟨fa, fd, ["_law_thing"], gm, F.kp, (F.bindsN (ps := ["_law_thing"]) fun _ _ _ _ _ _ us hl => match us, hl with | [_], _ => rfl), fn_V (k := 0) F sc__law_whole (fun cdv A outer s H E c =>
  (mss_one (ms_ret (m_and (m_isi (T := "int") (by decide) T.n_isinstance T.n_int (m_nm 0)) (m_one (m_not (m_isi (T := "bool") (by decide) T.n_isinstance T.n_bool (m_nm 0))))))))⟩

abbrev s__law_is_turning : Stmt := topS 12
theorem sc__law_is_turning : FnScope ["_law_names", "_law_thing", "_law_sign"] ["_law_names", "_law_thing"] (defScope s__law_is_turning) := ⟨rfl, rfl, rfl, by decide +kernel, rfl, by decide +kernel, by decide +kernel⟩
def m__law_is_turning : M Fl :=
  (sSeq (sIf (eOr (eNot (eB (e1 (gIsi "tuple") (eNm 1)))) (eNot (eB (e1 (gBools fun bs => bs.all id) (eVl (eL (eLc [2] ((eVar 1) >>= fun d => M.lift (asS d)) (setV 2) mYes (eCall f__law_whole (eCons (eVar 2) (pure [])))))))))) (sRet (pure (.bool false))) (pure .nx))
  (sRet (e2 dEq (eVl (eL (e1 gSorted (eVl (eL (eLc [2] ((eVar 1) >>= fun d => M.lift (asS d)) (setV 2) mYes (e1 gAbs (eNm 2)))))))) (eVl (eL ((eRg2 (eVl (pure (.int 1))) (eVl (e2 dAddL (eNm 0) (eVl (pure (.int 1)))))) >>= fun p => M.lift (gRgL p)))))))
def f__law_is_turning : List D → Res D := runB 3 m__law_is_turning
theorem d__law_is_turning (T : Txt K mg) (G__law_whole : DefV P w K mg base 1 "_law_whole" 1 f__law_whole) {fa : Addr} {fd : FuncData} (F : FnP K "_law_is_turning" s__law_is_turning fa fd) (gm : mg "_law_is_turning" = some (.ref fa)) : DefV P w K mg base 2 "_law_is_turning" 2 f__law_is_turning :=
  ⟨fa, fd, ["_law_names", "_law_thing"], gm, F.kp, (F.bindsN (ps := ["_law_names", "_law_thing"]) fun _ _ _ _ _ _ us hl => match us, hl with | [_, _], _ => rfl), fn_V (k := 1) F sc__law_is_turning (fun cdv A outer s H E c =>
  (mss_cons (ms_if (PW.pt (mt_or (mt_not (mt_val (m_isi (T := "tuple") (by decide) T.n_isinstance T.n_tuple (m_nm 1)))) (pw_or1 (mt_not (mt_val (m_callB1 (f_all c.calm) T.n_all (m_vl (m_frz (m_lcO (own := [("_law_sign", 2)]) (fun _ _ _ => setV_exc) (by decide) (fun _ _ => .inl rfl) c.calm c.nd (mi_seq (m_var 1 (.inl rfl))) (blkOk_by (by kernel_rfl)) (fun s1 H1 L1 cl1 fp1 => (mg_name 2 (.inl rfl) (c.blk s1 H1 _ _ fp1).nd)) (fun s1 H1 L1 cl1 fp1 => mts_nil) (fun s1 H1 L1 cl1 fp1 => (mv_call G__law_whole (c.blk s1 H1 _ _ fp1) (by decide) (an_cons (m_var 2 (.inl rfl)) an_nil)))))))))))) (mss_one (ms_ret m_bl)) mss_nil) (mss_one (ms_ret (m_cmp (o_eq c.units) (m_vl (m_frz (m_callB1O f_sorted T.n_sorted (m_vl (m_frz (m_lcO (own := [("_law_sign", 2)]) (fun _ _ _ => setV_exc) (by decide) (fun _ _ => .inl rfl) c.calm c.nd (mi_seq (m_var 1 (.inl rfl))) (blkOk_by (by kernel_rfl)) (fun s2 H2 L2 cl2 fp2 => (mg_name 2 (.inl rfl) (c.blk s2 H2 _ _ fp2).nd)) (fun s2 H2 L2 cl2 fp2 => mts_nil) (fun s2 H2 L2 cl2 fp2 => (m_callB1 f_abs T.n_abs (m_nm 2))))))))) (m_vl (m_frz (m_listRg c.calm T.n_list (rg2 T.n_range (m_vl m_int) (m_vl (m_op o_addL (m_nm 0) (m_vl m_int))))))) (nomark _))))))⟩

abbrev s__law_odd : Stmt := topS 13
theorem sc__law_odd : FnScope ["_law_state_here", "_law_some"] ["_law_state_here"] (defScope s__law_odd) := ⟨rfl, rfl, rfl, by decide +kernel, rfl, by decide +kernel, by decide +kernel⟩
def m__law_odd : M Fl :=
  (sSeq (sSet 1 (eL (eLst (eCons (pure .none) (eCons (pure (.bool true)) (eCons (pure (.bool false)) (eCons (e1 dNeg (eVl (pure (.int 1)))) (eCons (pure (.int 0)) (eCons (pure (.int 1)) (eCons (pure (.str "")) (eCons (pure (.str "1")) (eCons (eTup (pure [])) (eCons (eL (eLst (pure []))) (eCons (eTup (eCons (pure (.bool true)) (pure []))) (eCons (eL (eLst (eCons (pure (.int 1)) (pure [])))) (eCons (pure (.dict [(.int 0, .int 1)])) (eCons (eTup (eCons (pure .none) (pure []))) (eCons (eTup (eCons (eTup (eCons (pure (.int 1)) (pure []))) (pure []))) (eCons (e2 dPow (eVl (pure (.int 10))) (eVl (pure (.int 29)))) (pure []))))))))))))))))))))
  (sRet (e2 dIx (eVl (e2 dAddL (eNm 1) (eVl (eL (eLst (eCons (eTup (eCons (pure (.int 0)) (pure []))) (eCons (eTup (eCons (pure (.int 1)) (eCons (pure (.int 2)) (pure [])))) (pure [])))))))) (eVl (eCallR 0 f__law_take (eCons (pure (.int 18)) (pure [])))))))
def f__law_odd : List D → List D → Res (D × List D) := runR 2 m__law_odd
theorem d__law_odd (T : Txt K mg) (G__law_take : DefR P w K mg base 1 "_law_take" 1 f__law_take) {fa : Addr} {fd : FuncData} (F : FnP K "_law_odd" s__law_odd fa fd) (gm : mg "_law_odd" = some (.ref fa)) : DefR P w K mg base 2 "_law_odd" 0 f__law_odd :=
  ⟨fa, fd, ["_law_state_here"], gm, F.kp, (F.bindsN (ps := ["_law_state_here"]) fun _ _ _ _ _ _ us hl => match us, hl with | [_], _ => rfl), fn_R (k := 1) F sc__law_odd rfl (fun cdv A outer s H E p c =>
  (mss_cons (ms_set 1 (.inr (by decide)) c.nd (m_frz (m_lstO (ma_cons m_non (ma_cons m_bl (ma_cons m_bl (ma_cons (m_neg (m_vl m_int)) (ma_cons m_int (ma_cons m_int (ma_cons m_str (ma_cons m_str (ma_cons (m_tup (k := 0) ma_nil) (ma_cons (m_frz (m_lstO ma_nil)) (ma_cons (m_tup (k := 0) (ma_cons m_bl ma_nil)) (ma_cons (m_frz (m_lstO (ma_cons m_int ma_nil))) (ma_cons m_dict1 (ma_cons (m_tup (k := 0) (ma_cons m_non ma_nil)) (ma_cons (m_tup (k := 0) (ma_cons (m_tup (k := 0) (ma_cons m_int ma_nil)) ma_nil)) (ma_cons (m_op o_pow (m_vl m_int) (m_vl m_int)) ma_nil))))))))))))))))))) (mss_one (ms_ret (m_ix (m_vl (m_op o_addL (m_nm 1) (m_vl (m_frz (m_lstO (ma_cons (m_tup (k := 0) (ma_cons m_int ma_nil)) (ma_cons (m_tup (k := 0) (ma_cons m_int (ma_cons m_int ma_nil))) ma_nil))))))) (m_vl (mr_call 0 G__law_take c (by decide) (an_cons m_int an_nil))))))))⟩

abbrev s__law_bent_turning : Stmt := topS 14
theorem sc__law_bent_turning : FnScope ["_law_state_here", "_law_turning_here", "_law_names", "_law_odd_here", "_law_some", "_law_at", "_law_to"] ["_law_state_here", "_law_turning_here"] (defScope s__law_bent_turning) := ⟨rfl, rfl, rfl, by decide +kernel, rfl, by decide +kernel, by decide +kernel⟩
def m__law_bent_turning : M Fl :=
  (sSeq (sSet 2 (e1 gLen (eNm 1)))
  (sSeq (sIf (eB (e2 dEq (eNm 2) (eVl (pure (.int 0))))) (sRet (e2 dIx (eVl (eL (eLst (eCons (eTup (eCons (pure (.int 0)) (pure []))) (eCons (eTup (eCons (pure (.int 1)) (pure []))) (eCons (eL (eLst (pure []))) (eCons (pure .none) (eCons (eTup (eCons (eTup (pure [])) (pure []))) (eCons (eTup (eCons (pure (.bool true)) (pure []))) (pure [])))))))))) (eVl (eCallR 0 f__law_take (eCons (pure (.int 6)) (pure [])))))) (pure .nx))
  (sSeq (sPar 5 6 (eCons (eCallR 0 f__law_take (eCons (eVar 2) (pure []))) (eCons (eCallR 0 f__law_take (eCons (eVar 2) (pure []))) (pure []))))
  (sSeq (sSet 3 (eL (eLst (eCons (pure (.int 0)) (eCons (e2 dAddL (eNm 2) (eVl (pure (.int 1)))) (eCons (e2 dSub (eVl (e1 dNeg (eNm 2))) (eVl (pure (.int 1)))) (eCons (pure (.bool true)) (eCons (pure .none) (eCons (pure (.str "1")) (eCons (eTup (eCons (pure (.int 1)) (pure []))) (eCons (e2 dIx (eNm 1) (eNm 6)) (eCons (e1 dNeg (eVl (e2 dIx (eNm 1) (eNm 6)))) (eCons (e1 dNeg (eVl (e2 dIx (eNm 1) (eNm 5)))) (eCons (e2 dPow (eVl (pure (.int 10))) (eVl (pure (.int 29)))) (pure [])))))))))))))))
  (sSeq (sSet 3 (e2 dIx (eNm 3) (eVl (eCallR 0 f__law_take (eCons (pure (.int 11)) (pure []))))))
  (sSeq (sSet 4 (eL (eLst (eCons (e2 dAddL (eVl (e2 dAddL (eVl (eSl dSl (eNm 1) (pure none) (ePart (eNm 5)))) (eVl (eTup (eCons (eVar 3) (pure [])))))) (eVl (eSl dSl (eNm 1) (ePart (eVl (e2 dAddL (eNm 5) (eVl (pure (.int 1)))))) (pure none)))) (eCons (e2 dAddL (eVl (e2 dAddL (eVl (eSl dSl (eNm 1) (pure none) (ePart (eNm 5)))) (eVl (eTup (eCons (eVar 3) (pure [])))))) (eVl (eSl dSl (eNm 1) (ePart (eNm 5)) (pure none)))) (eCons (eL (e1 gList (eNm 1))) (eCons (eTup (eCons (eVar 1) (pure []))) (pure []))))))))
  (sSeq (sSet 4 (e2 dAddL (eNm 4) (eVl (eL (eLst (eCons (e2 dAddL (eVl (eSl dSl (eNm 1) (pure none) (ePart (eNm 5)))) (eVl (eSl dSl (eNm 1) (ePart (eVl (e2 dAddL (eNm 5) (eVl (pure (.int 1)))))) (pure none)))) (eCons (e2 dAddL (eNm 1) (eVl (eTup (eCons (e2 dAddL (eNm 2) (eVl (pure (.int 1)))) (pure []))))) (eCons (e1 dRev (eNm 1)) (eCons (e2 dAddL (eNm 1) (eVl (eSl dSl (eNm 1) (pure none) (ePart (eVl (pure (.int 1))))))) (pure []))))))))))
  (sRet (e2 dIx (eNm 4) (eVl (e2 dIx (eVl (eL (eLst (eCons (pure (.int 0)) (eCons (pure (.int 0)) (eCons (pure (.int 0)) (eCons (pure (.int 1)) (eCons (pure (.int 2)) (eCons (pure (.int 3)) (eCons (pure (.int 4)) (eCons (pure (.int 5)) (eCons (pure (.int 6)) (eCons (pure (.int 7)) (pure [])))))))))))))) (eVl (eCallR 0 f__law_take (eCons (pure (.int 10)) (pure [])))))))))))))))
def f__law_bent_turning : List D → List D → Res (D × List D) := runR 7 m__law_bent_turning
theorem d__law_bent_turning (T : Txt K mg) (G__law_take : DefR P w K mg base 1 "_law_take" 1 f__law_take) {fa : Addr} {fd : FuncData} (F : FnP K "_law_bent_turning" s__law_bent_turning fa fd) (gm : mg "_law_bent_turning" = some (.ref fa)) : DefR P w K mg base 2 "_law_bent_turning" 1 f__law_bent_turning :=
  ⟨fa, fd, ["_law_state_here", "_law_turning_here"], gm, F.kp, (F.bindsN (ps := ["_law_state_here", "_law_turning_here"]) fun _ _ _ _ _ _ us hl => match us, hl with | [_, _], _ => rfl), fn_R (k := 1) F sc__law_bent_turning rfl (fun cdv A outer s H E p c =>
  (mss_cons (ms_set 2 (.inr (by decide)) c.nd (m_callB1 f_len T.n_len (m_nm 1))) (mss_cons (ms_if (mt_cmp (o_eq c.units) (m_nm 2) (m_vl m_int) (nomark _)) (mss_one (ms_ret (m_ix (m_vl (m_frz (m_lstO (ma_cons (m_tup (k := 0) (ma_cons m_int ma_nil)) (ma_cons (m_tup (k := 0) (ma_cons m_int ma_nil)) (ma_cons (m_frz (m_lstO ma_nil)) (ma_cons m_non (ma_cons (m_tup (k := 0) (ma_cons (m_tup (k := 0) ma_nil) ma_nil)) (ma_cons (m_tup (k := 0) (ma_cons m_bl ma_nil)) ma_nil))))))))) (m_vl (mr_call 0 G__law_take c (by decide) (an_cons m_int an_nil)))))) mss_nil) (mss_cons (ms_par 5 6 (.inr (by decide)) (.inr (by decide)) c.calm c.nd (by decide) (ma_cons (mr_call 0 G__law_take c (by decide) (an_cons (m_var 2 (.inr (by decide))) an_nil)) (ma_cons (mr_call 0 G__law_take c (by decide) (an_cons (m_var 2 (.inr (by decide))) an_nil)) ma_nil))) (mss_cons (ms_set 3 (.inr (by decide)) c.nd (m_frz (m_lstO (ma_cons m_int (ma_cons (m_op o_addL (m_nm 2) (m_vl m_int)) (ma_cons (m_op o_sub (m_vl (m_neg (m_nm 2))) (m_vl m_int)) (ma_cons m_bl (ma_cons m_non (ma_cons m_str (ma_cons (m_tup (k := 0) (ma_cons m_int ma_nil)) (ma_cons (m_ix (m_nm 1) (m_nm 6)) (ma_cons (m_neg (m_vl (m_ix (m_nm 1) (m_nm 6)))) (ma_cons (m_neg (m_vl (m_ix (m_nm 1) (m_nm 5)))) (ma_cons (m_op o_pow (m_vl m_int) (m_vl m_int)) ma_nil)))))))))))))) (mss_cons (ms_set 3 (.inr (by decide)) c.nd (m_ix (m_nm 3) (m_vl (mr_call 0 G__law_take c (by decide) (an_cons m_int an_nil))))) (mss_cons (ms_set 4 (.inr (by decide)) c.nd (m_frz (m_lstO (ma_cons (m_op o_addL (m_vl (m_op o_addL (m_vl (m_sl (m_nm 1) mp_no (mp_so (m_nm 5)))) (m_vl (m_tup (k := 0) (ma_cons (m_var 3 (.inr (by decide))) ma_nil))))) (m_vl (m_sl (m_nm 1) (mp_so (m_vl (m_op o_addL (m_nm 5) (m_vl m_int)))) mp_no))) (ma_cons (m_op o_addL (m_vl (m_op o_addL (m_vl (m_sl (m_nm 1) mp_no (mp_so (m_nm 5)))) (m_vl (m_tup (k := 0) (ma_cons (m_var 3 (.inr (by decide))) ma_nil))))) (m_vl (m_sl (m_nm 1) (mp_so (m_nm 5)) mp_no))) (ma_cons (m_frz (m_callT1O f_list T.n_list (m_nm 1))) (ma_cons (m_tup (k := 0) (ma_cons (m_var 1 (.inr (by decide))) ma_nil)) ma_nil))))))) (mss_cons (ms_set 4 (.inr (by decide)) c.nd (m_op o_addL (m_nm 4) (m_vl (m_frz (m_lstO (ma_cons (m_op o_addL (m_vl (m_sl (m_nm 1) mp_no (mp_so (m_nm 5)))) (m_vl (m_sl (m_nm 1) (mp_so (m_vl (m_op o_addL (m_nm 5) (m_vl m_int)))) mp_no))) (ma_cons (m_op o_addL (m_nm 1) (m_vl (m_tup (k := 0) (ma_cons (m_op o_addL (m_nm 2) (m_vl m_int)) ma_nil)))) (ma_cons (m_rev (m_nm 1)) (ma_cons (m_op o_addL (m_nm 1) (m_vl (m_sl (m_nm 1) mp_no (mp_so (m_vl m_int))))) ma_nil))))))))) (mss_one (ms_ret (m_ix (m_nm 4) (m_vl (m_ix (m_vl (m_frz (m_lstO (ma_cons m_int (ma_cons m_int (ma_cons m_int (ma_cons m_int (ma_cons m_int (ma_cons m_int (ma_cons m_int (ma_cons m_int (ma_cons m_int (ma_cons m_int ma_nil))))))))))))) (m_vl (mr_call 0 G__law_take c (by decide) (an_cons m_int an_nil))))))))))))))))⟩

abbrev s__law_same : Stmt := topS 15
theorem sc__law_same : FnScope ["_law_found", "_law_due", "_law_one", "_law_other"] ["_law_found", "_law_due"] (defScope s__law_same) := ⟨rfl, rfl, rfl, by decide +kernel, rfl, by decide +kernel, by decide +kernel⟩
def m__law_same (fr : List D → Res D) : M Fl :=
  (sSeq (sIf (eB (e1 (gIsis ["tuple", "list"]) (eNm 1))) (sSeq (sIf (eOr (eB (e2 dNe (eVl (e1 (gIsi "tuple") (eNm 0))) (eVl (e1 (gIsi "tuple") (eNm 1))))) (eB (e2 dNe (eVl (e1 (gIsi "list") (eNm 0))) (eVl (e1 (gIsi "list") (eNm 1)))))) (sRet (pure (.bool false))) (pure .nx))
  (sRet (eAndV (e2 dEq (eVl (e1 gLen (eNm 0))) (eVl (e1 gLen (eNm 1)))) (e1 (gBools fun bs => bs.all id) (eVl (eL (eLc [2, 3] ((eVar 0) >>= fun d => (eVar 1) >>= fun e => M.lift (gZip d e)) (bdT [2, 3]) mYes (eCall fr (eCons (eVar 2) (eCons (eVar 3) (pure []))))))))))) (pure .nx))
  (sRet (eAndV (e2 dEq (eNm 0) (eNm 1)) (e2 dEq (eVl (e1 (gIsi "bool") (eNm 0))) (eVl (e1 (gIsi "bool") (eNm 1)))))))
def fr__law_same : Nat → List D → Res D
  | 0 => fun _ => .bad
  | n + 1 => runB 4 (m__law_same (fr__law_same n))
def f__law_same : List D → Res D := fr__law_same 8
theorem d__law_same (T : Txt K mg)  {fa : Addr} {fd : FuncData} (F : FnP K "_law_same" s__law_same fa fd) (gm : mg "_law_same" = some (.ref fa)) : ∀ n : Nat, DefV P w K mg base (n + 1) "_law_same" 2 (fr__law_same n)
  | 0 => ⟨fa, fd, ["_law_found", "_law_due"], gm, F.kp, (F.bindsN (ps := ["_law_found", "_law_due"]) fun _ _ _ _ _ _ us hl => match us, hl with | [_, _], _ => rfl), ⟨fun vs H Q E h => by
    obtain ⟨ds, F0, _, r, hn, _⟩ := h
    rw [← r.len, hn]
    rfl, fun A outer s H args us vs Q E _ _ _ _ h => by
    obtain ⟨ds, F0, _, r, hn, h⟩ := h
    exact h.elim⟩⟩
  | n + 1 => by
    have G__law_same := d__law_same T  F gm n
    exact ⟨fa, fd, ["_law_found", "_law_due"], gm, F.kp, (F.bindsN (ps := ["_law_found", "_law_due"]) fun _ _ _ _ _ _ us hl => match us, hl with | [_, _], _ => rfl), fn_V (k := n + 1) F sc__law_same (fun cdv A outer s H E c =>
    (mss_cons (ms_if (mt_val (m_isis (Ts := ["tuple", "list"]) (kk := 0) (by decide) (by decide) T.n_isinstance (m_nm 1) (tys_cons (T := "tuple") (tys_cons (T := "list") tys_nil T.n_list) T.n_tuple))) (mss_cons (ms_if (PW.pt (mt_or (mt_cmp (o_ne c.units) (m_vl (m_isi (T := "tuple") (by decide) T.n_isinstance T.n_tuple (m_nm 0))) (m_vl (m_isi (T := "tuple") (by decide) T.n_isinstance T.n_tuple (m_nm 1))) (nomark _)) (pw_or1 (mt_cmp (o_ne c.units) (m_vl (m_isi (T := "list") (by decide) T.n_isinstance T.n_list (m_nm 0))) (m_vl (m_isi (T := "list") (by decide) T.n_isinstance T.n_list (m_nm 1))) (nomark _))))) (mss_one (ms_ret m_bl)) mss_nil) (mss_one (ms_ret (m_and (m_cmp (o_eq c.units) (m_vl (m_callB1 f_len T.n_len (m_nm 0))) (m_vl (m_callB1 f_len T.n_len (m_nm 1))) (nomark _)) (m_one (m_callB1 (f_all c.calm) T.n_all (m_vl (m_frz (m_lcO (own := [("_law_one", 2), ("_law_other", 3)]) (fun _ _ _ => bdT_exc) (by decide) (fun _ _ => .inl rfl) c.calm c.nd (mi_zip T.n_zip (m_var 0 (.inl rfl)) (m_var 1 (.inl rfl))) (blkOk_by (by kernel_rfl)) (fun s1 H1 L1 cl1 fp1 => (mg_tup (k := 0) (c.blk s1 H1 _ _ fp1).calm (mgs_cons (mg_name 2 (.inl rfl) (c.blk s1 H1 _ _ fp1).nd) (mgs_cons (mg_name 3 (.inl rfl) (c.blk s1 H1 _ _ fp1).nd) mgs_nil)))) (fun s1 H1 L1 cl1 fp1 => mts_nil) (fun s1 H1 L1 cl1 fp1 => (mv_call G__law_same (c.blk s1 H1 _ _ fp1) (by omega) (an_cons (m_var 2 (.inl rfl)) (an_cons (m_var 3 (.inl rfl)) an_nil))))))))))))) mss_nil) (mss_one (ms_ret (m_and (m_cmp (o_eq c.units) (m_nm 0) (m_nm 1) (nomark _)) (m_one (m_cmp (o_eq c.units) (m_vl (m_isi (T := "bool") (by decide) T.n_isinstance T.n_bool (m_nm 0))) (m_vl (m_isi (T := "bool") (by decide) T.n_isinstance T.n_bool (m_nm 1))) (nomark _))))))))⟩

abbrev s_law : Stmt := topS 16
theorem sc_law : FnScope ["_law_script", "_law_k", "_law_state_here", "_law_names", "_law_turning_here", "_law_things", "_law_thing", "_law_sign", "_law_found", "_law_turn"] ["_law_script"] (defScope s_law) := ⟨rfl, rfl, rfl, by decide +kernel, rfl, by decide +kernel, by decide +kernel⟩
def m_law : M Fl :=
  (sSeq (sIf (eOr (eB (e2 dNotB (eVl (eCall f_is_turning (eCons (pure (.int 0)) (eCons (eTup (pure [])) (pure []))))) (eVl (pure (.bool true))))) (eOr (eB (e2 dNotB (eVl (eCall f_is_turning (eCons (pure (.int 1)) (eCons (eTup (eCons (pure (.bool true)) (pure []))) (pure []))))) (eVl (pure (.bool false))))) (eB (e2 dNotB (eVl (eCall f_is_turning (eCons (pure (.int 2)) (eCons (eTup (eCons (pure (.int 2)) (eCons (e1 dNeg (eVl (pure (.int 1)))) (pure [])))) (pure []))))) (eVl (pure (.bool true))))))) (sRet (pure (.bool false))) (pure .nx))
  (sSeq (sFor (eRg1 (eVl (e2 gMax (eVl (pure (.int 1))) (eVl (e2 gMin (eVl (eLenS 0)) (eVl (pure (.int 10))))))) >>= fun p => M.lift (gRg p)) (setV 1) (sSeq (sSetO 2 (eCallSO 0 f__law_state (eCons (eVar 1) (pure []))))
  (sSeq (sSet 3 (eCallR 2 f__law_take (eCons (pure (.int 6)) (pure []))))
  (sSeq (sSet 4 (eCallR 2 f__law_turning (eCons (eVar 3) (pure []))))
  (sSeq (sSet 5 (eL (eLst (eCons (eVar 4) (eCons (eCallR 2 f__law_odd (pure [])) (eCons (eCallR 2 f__law_turning (eCons (eCallR 2 f__law_take (eCons (pure (.int 6)) (pure []))) (pure []))) (pure [])))))))
  (sSeq (sFor ((e2 dAddL (eNm 5) (eVl (eL (eLc [9] (eRg1 (eVl (pure (.int 4))) >>= fun p => M.lift (gRg p)) (setV 9) mYes (eCallR 2 f__law_bent_turning (eCons (eVar 4) (pure []))))))) >>= fun d => M.lift (asS d)) (setV 6) (sSeq (sSet 8 (eCall f_is_turning (eCons (eVar 3) (eCons (eVar 6) (pure [])))))
  (sIf (eOr (eNot (eB (e1 (gIsi "bool") (eNm 8)))) (eB (e2 dNe (eNm 8) (eVl (eCall f__law_is_turning (eCons (eVar 3) (eCons (eVar 6) (pure [])))))))) (sRet (pure (.bool false))) (pure .nx))))
  (sFor ((e2 dAddL (eVl (eL ((eRg2 (eVl (pure (.int 1))) (eVl (e2 dAddL (eNm 3) (eVl (pure (.int 1)))))) >>= fun p => M.lift (gRgL p)))) (eVl (eL ((eRg2 (eVl (e1 dNeg (eNm 3))) (eVl (pure (.int 0)))) >>= fun p => M.lift (gRgL p))))) >>= fun d => M.lift (asS d)) (setV 7) (sIf (eNot (eB (eCall f__law_same (eCons (eCall f_led_sign (eCons (eVar 4) (eCons (eVar 7) (pure [])))) (eCons (eCall f__law_led_sign (eCons (eVar 4) (eCons (eVar 7) (pure [])))) (pure [])))))) (sRet (pure (.bool false))) (pure .nx)))))))))
  (sRet (pure (.bool true)))))
def f_law : List Int → List D → Res D := runSV 10 m_law
theorem d_law (T : Txt K mg) (G__law_state : DefSO P w K mg base 2 "_law_state" 1 f__law_state) (G__law_take : DefR P w K mg base 1 "_law_take" 1 f__law_take) (G__law_turning : DefR P w K mg base 2 "_law_turning" 1 f__law_turning) (G_is_turning : DefV P w K mg base 2 "is_turning" 2 f_is_turning) (G__law_odd : DefR P w K mg base 2 "_law_odd" 0 f__law_odd) (G__law_bent_turning : DefR P w K mg base 2 "_law_bent_turning" 1 f__law_bent_turning) (G__law_same : DefV P w K mg base 9 "_law_same" 2 f__law_same) (G__law_is_turning : DefV P w K mg base 2 "_law_is_turning" 2 f__law_is_turning) (G_led_sign : DefV P w K mg base 1 "led_sign" 2 f_led_sign) (G__law_led_sign : DefV P w K mg base 1 "_law_led_sign" 2 f__law_led_sign) {fa : Addr} {fd : FuncData} (F : FnP K "law" s_law fa fd) (gm : mg "law" = some (.ref fa)) : FnOk P w K mg base (L2.CX P w) 10 fa fd ["_law_script"] (spSV K mg 0 f_law) := by
  rw [show f_law = runSV (["_law_script", "_law_k", "_law_state_here", "_law_names", "_law_turning_here", "_law_things", "_law_thing", "_law_sign", "_law_found", "_law_turn"] : List Str).length m_law from rfl]
  exact fn_SV (k := 9) F sc_law rfl (fun cdv A outer s H E c =>
  (mss_cons (ms_if (PW.pt (mt_or (mt_cmp o_notB (m_vl (mv_call G_is_turning c (by decide) (an_cons m_int (an_cons (m_tup (k := 0) ma_nil) an_nil)))) (m_vl m_bl) (nomark _)) (mt_or (mt_cmp o_notB (m_vl (mv_call G_is_turning c (by decide) (an_cons m_int (an_cons (m_tup (k := 0) (ma_cons m_bl ma_nil)) an_nil)))) (m_vl m_bl) (nomark _)) (pw_or1 (mt_cmp o_notB (m_vl (mv_call G_is_turning c (by decide) (an_cons m_int (an_cons (m_tup (k := 0) (ma_cons m_int (ma_cons (m_neg (m_vl m_int)) ma_nil))) an_nil)))) (m_vl m_bl) (nomark _)))))) (mss_one (ms_ret m_bl)) mss_nil) (mss_cons (ms_for (fun _ _ _ => setV_exc) c.own c.calm (mi_rg1 T.n_range (m_vl (m_callB2 (f_max c.calm) T.n_max (m_vl m_int) (m_vl (m_callB2 (f_min c.calm) T.n_min (m_vl (m_lenS 0 T.n_len)) (m_vl m_int)))))) (mg_name 1 (.inl rfl) c.nd) (mss_cons (ms_setO 2 (.inl rfl) c.nd (moS_call 0 G__law_state c (by decide) (an_cons (m_var 1 (.inl rfl)) an_nil))) (mss_cons (ms_set 3 (.inl rfl) c.nd (mr_call 2 G__law_take c (by decide) (an_cons m_int an_nil))) (mss_cons (ms_set 4 (.inl rfl) c.nd (mr_call 2 G__law_turning c (by decide) (an_cons (m_var 3 (.inl rfl)) an_nil))) (mss_cons (ms_set 5 (.inl rfl) c.nd (m_frz (m_lstO (ma_cons (m_var 4 (.inl rfl)) (ma_cons (mr_call 2 G__law_odd c (by decide) an_nil) (ma_cons (mr_call 2 G__law_turning c (by decide) (an_cons (mr_call 2 G__law_take c (by decide) (an_cons m_int an_nil)) an_nil)) ma_nil)))))) (mss_cons (ms_for (fun _ _ _ => setV_exc) c.own c.calm (mi_seq (m_op o_addL (m_nm 5) (m_vl (m_frz (m_lcO (own := [("_law_turn", 9)]) (fun _ _ _ => setV_exc) (by decide) (fun _ _ => .inl rfl) c.calm c.nd (mi_rg1 T.n_range (m_vl m_int)) (blkOk_by (by kernel_rfl)) (fun s1 H1 L1 cl1 fp1 => (mg_name 9 (.inl rfl) (c.blk s1 H1 _ _ fp1).nd)) (fun s1 H1 L1 cl1 fp1 => mts_nil) (fun s1 H1 L1 cl1 fp1 => (mr_call 2 G__law_bent_turning (c.blk s1 H1 _ _ fp1) (by decide) (an_cons (m_var 4 (.inl rfl)) an_nil)))))))) (mg_name 6 (.inl rfl) c.nd) (mss_cons (ms_set 8 (.inl rfl) c.nd (mv_call G_is_turning c (by decide) (an_cons (m_var 3 (.inl rfl)) (an_cons (m_var 6 (.inl rfl)) an_nil)))) (mss_one (ms_if (PW.pt (mt_or (mt_not (mt_val (m_isi (T := "bool") (by decide) T.n_isinstance T.n_bool (m_nm 8)))) (pw_or1 (mt_cmp (o_ne c.units) (m_nm 8) (m_vl (mv_call G__law_is_turning c (by decide) (an_cons (m_var 3 (.inl rfl)) (an_cons (m_var 6 (.inl rfl)) an_nil)))) (nomark _))))) (mss_one (ms_ret m_bl)) mss_nil)))) (mss_one (ms_for (fun _ _ _ => setV_exc) c.own c.calm (mi_seq (m_op o_addL (m_vl (m_frz (m_listRg c.calm T.n_list (rg2 T.n_range (m_vl m_int) (m_vl (m_op o_addL (m_nm 3) (m_vl m_int))))))) (m_vl (m_frz (m_listRg c.calm T.n_list (rg2 T.n_range (m_vl (m_neg (m_nm 3))) (m_vl m_int))))))) (mg_name 7 (.inl rfl) c.nd) (mss_one (ms_if (mt_not (mt_val (mv_call G__law_same c (by decide) (an_cons (mv_call G_led_sign c (by decide) (an_cons (m_var 4 (.inl rfl)) (an_cons (m_var 7 (.inl rfl)) an_nil))) (an_cons (mv_call G__law_led_sign c (by decide) (an_cons (m_var 4 (.inl rfl)) (an_cons (m_var 7 (.inl rfl)) an_nil))) an_nil))))) (mss_one (ms_ret m_bl)) mss_nil)))))))))) (mss_one (ms_ret m_bl)))))

end
end LW

set_option Elab.async false
set_option linter.all false
set_option maxRecDepth 100000
set_option maxHeartbeats 4000000
namespace LW
open PySem PySem.Spec PyProof.Rows L2 VS
theorem fmod_b {a b : Int} (h : 0 < b) : 0 ≤ a.fmod b ∧ a.fmod b < b := ⟨Int.fmod_nonneg_of_pos a h, Int.fmod_lt_of_pos a h⟩
theorem cmul_l {i j : Int} (h1 : -(2 ^ 64) < i) (h2 : i < 2 ^ 64) : CMul i j := Or.inl ⟨h1, h2⟩
theorem cmul_r {i j : Int} (h1 : -(2 ^ 64) < j) (h2 : j < 2 ^ 64) : CMul i j := Or.inr ⟨h1, h2⟩
def StOk (ds : List D) : Prop := (∃ x : Int, 0 ≤ x ∧ ds = [.int x, .bool true]) ∨ ∃ x : Int, 0 ≤ x ∧ x < 2147483647 ∧ ds = [.int x, .bool false]
theorem at0 {α : Type} {a b : α} : atI [a, b] 0 = some a := rfl
theorem at1 {α : Type} {a b : α} : atI [a, b] 1 = some b := rfl
theorem set0 {ρ : En} {a b d : D} : setIxO 0 (.int 0) d (.own [a, b] :: ρ) = .ok ((), .own [d, b] :: ρ) := rfl
theorem take_ok {ds : List D} {m : Int} (h : StOk ds) (h1 : 0 < m) (h2 : m < 1048576) : ∃ r ds', f__law_take ds [.int m] = .ok (.int r, ds') ∧ 0 ≤ r ∧ r < m ∧ StOk ds' := by
  have hm : m ≠ 0 := by omega
  rcases h with ⟨x, hx, rfl⟩ | ⟨x, hx, hx2, rfl⟩
  · have hd : CDivN x m := ⟨hm, by omega⟩
    have hb := fmod_b (a := x) h1
    refine ⟨x.fmod m, [.int (x.fdiv m), .bool true], ?_, hb.1, hb.2, Or.inl ⟨_, Int.fdiv_nonneg hx (by omega), rfl⟩⟩
    refine a_runR 4 _ _ _ (ρ' := [.val (.int m), .emp, .val (.int (x.fmod m))]) ?_
    simp only [m__law_take, rb_ok, rb_exc, rb_bad, bIf_t, bIf_f, a_int, a_vl, a_e1, a_e2, a_L, a_nil, a_cons, a_tup, a_lst, a_B, asB_b, a_and, a_or, a_not, a_notV, a_andV, a_orV, a_if, a_rg1, a_rg2, asI_i, asS_l, asS_t, a_call, a_callO, a_callSO, a_callSV, a_lenS, a_ixS, a_callR, a_popAt, a_lift, a_lift2, a_seq, sq_nx, sq_rt, sq_ro, sq_bk, sq_ct, a_fl, a_sif, a_ret, a_retO, a_do, a_set, a_setO, a_app, a_setIx, a_for, a_forc, forGo_nil, fg_nx, fg_ct, fg_bk, fg_rt, fg_ro, a_par, par_ok, i_sub, i_add, i_neg, i_abs, i_gt, i_ge, i_lt, i_le, i_eq, i_ne, len_l, len_t, tup_l, i_max, i_min, isi_ok, isis_ok, eNm, eAt, eVar, setV, setO, sv_nil, sv_cons, bd_t, isO, scrAt, appO, startE, startR, startS, List.map_cons, List.map_nil, List.cons_append, List.nil_append, List.replicate_succ, List.replicate_zero, List.length_cons, List.length_nil, List.getElem?_cons_zero, List.getElem?_cons_succ, List.set_cons_zero, List.set_cons_succ, ↓reduceIte, Nat.reduceLT, Nat.reduceAdd, Nat.reduceSub, Nat.lt_add_one, Nat.zero_lt_succ, Nat.succ_lt_succ_iff, ix_l at0, ix_l at1, i_mod hm, i_div hd, set0]
  · have bs := fmod_b (a := x * 48271 + 29) (b := 2147483647) (by decide)
    generalize hs : (x * 48271 + 29).fmod 2147483647 = s at bs
    have bt := fmod_b (a := s * s + 39373 * s + 7) (b := 2147483629) (by decide)
    generalize ht : (s * s + 39373 * s + 7).fmod 2147483629 = t at bt
    generalize hu : (t * t + 16807 * t).fmod 2147483587 = u
    have c1 : CMul x 48271 := cmul_r (by decide) (by decide)
    have c2 : CMul s s := cmul_l (by omega) (by omega)
    have c3 : CMul 39373 s := cmul_l (by decide) (by decide)
    have c4 : CMul t t := cmul_l (by omega) (by omega)
    have c5 : CMul 16807 t := cmul_l (by decide) (by decide)
    have c6 : CDivN u 8 := ⟨by decide, by decide⟩
    have n1 : (2147483647 : Int) ≠ 0 := by decide
    have n2 : (2147483629 : Int) ≠ 0 := by decide
    have n3 : (2147483587 : Int) ≠ 0 := by decide
    have hb := fmod_b (a := u.fdiv 8) h1
    refine ⟨(u.fdiv 8).fmod m, [.int s, .bool false], ?_, hb.1, hb.2, Or.inr ⟨_, bs.1, bs.2, rfl⟩⟩
    refine a_runR 4 _ _ _ (ρ' := [.val (.int m), .val (.int u), .emp]) ?_
    simp only [m__law_take, rb_ok, rb_exc, rb_bad, bIf_t, bIf_f, a_int, a_vl, a_e1, a_e2, a_L, a_nil, a_cons, a_tup, a_lst, a_B, asB_b, a_and, a_or, a_not, a_notV, a_andV, a_orV, a_if, a_rg1, a_rg2, asI_i, asS_l, asS_t, a_call, a_callO, a_callSO, a_callSV, a_lenS, a_ixS, a_callR, a_popAt, a_lift, a_lift2, a_seq, sq_nx, sq_rt, sq_ro, sq_bk, sq_ct, a_fl, a_sif, a_ret, a_retO, a_do, a_set, a_setO, a_app, a_setIx, a_for, a_forc, forGo_nil, fg_nx, fg_ct, fg_bk, fg_rt, fg_ro, a_par, par_ok, i_sub, i_add, i_neg, i_abs, i_gt, i_ge, i_lt, i_le, i_eq, i_ne, len_l, len_t, tup_l, i_max, i_min, isi_ok, isis_ok, eNm, eAt, eVar, setV, setO, sv_nil, sv_cons, bd_t, isO, scrAt, appO, startE, startR, startS, List.map_cons, List.map_nil, List.cons_append, List.nil_append, List.replicate_succ, List.replicate_zero, List.length_cons, List.length_nil, List.getElem?_cons_zero, List.getElem?_cons_succ, List.set_cons_zero, List.set_cons_succ, ↓reduceIte, Nat.reduceLT, Nat.reduceAdd, Nat.reduceSub, Nat.lt_add_one, Nat.zero_lt_succ, Nat.succ_lt_succ_iff, ix_l at0, ix_l at1, i_mod hm, i_mod n1, i_mod n2, i_mod n3, i_mul c1, i_mul c2, i_mul c3, i_mul c4, i_mul c5, i_div c6, hs, ht, hu, set0]
theorem cell_ok (ns : List Int) (k : Nat) : ∃ c, f__law_cell_at ns [.int k] = .ok (.int c) := by
  by_cases h : (k : Int) < ns.length
  · have hk : k < ns.length := by omega
    refine ⟨ns[k], a_runSV 2 _ _ _ (ρ' := [.scr ns, .val (.int k)]) ?_⟩
    have e : VS.atS ns k = .ok (.int ns[k]) := by
      unfold VS.atS atI ixN
      rw [if_pos (by omega), if_pos h]
      simp [hk]
    simp only [m__law_cell_at, rb_ok, rb_exc, rb_bad, bIf_t, bIf_f, a_int, a_vl, a_e1, a_e2, a_L, a_nil, a_cons, a_tup, a_lst, a_B, asB_b, a_and, a_or, a_not, a_notV, a_andV, a_orV, a_if, a_rg1, a_rg2, asI_i, asS_l, asS_t, a_call, a_callO, a_callSO, a_callSV, a_lenS, a_ixS, a_callR, a_popAt, a_lift, a_lift2, a_seq, sq_nx, sq_rt, sq_ro, sq_bk, sq_ct, a_fl, a_sif, a_ret, a_retO, a_do, a_set, a_setO, a_app, a_setIx, a_for, a_forc, forGo_nil, fg_nx, fg_ct, fg_bk, fg_rt, fg_ro, a_par, par_ok, i_sub, i_add, i_neg, i_abs, i_gt, i_ge, i_lt, i_le, i_eq, i_ne, len_l, len_t, tup_l, i_max, i_min, isi_ok, isis_ok, eNm, eAt, eVar, setV, setO, sv_nil, sv_cons, bd_t, isO, scrAt, appO, startE, startR, startS, List.map_cons, List.map_nil, List.cons_append, List.nil_append, List.replicate_succ, List.replicate_zero, List.length_cons, List.length_nil, List.getElem?_cons_zero, List.getElem?_cons_succ, List.set_cons_zero, List.set_cons_succ, ↓reduceIte, Nat.reduceLT, Nat.reduceAdd, Nat.reduceSub, Nat.lt_add_one, Nat.zero_lt_succ, Nat.succ_lt_succ_iff, h, decide_true, e]
  · refine ⟨0, a_runSV 2 _ _ _ (ρ' := [.scr ns, .val (.int k)]) ?_⟩
    simp only [m__law_cell_at, rb_ok, rb_exc, rb_bad, bIf_t, bIf_f, a_int, a_vl, a_e1, a_e2, a_L, a_nil, a_cons, a_tup, a_lst, a_B, asB_b, a_and, a_or, a_not, a_notV, a_andV, a_orV, a_if, a_rg1, a_rg2, asI_i, asS_l, asS_t, a_call, a_callO, a_callSO, a_callSV, a_lenS, a_ixS, a_callR, a_popAt, a_lift, a_lift2, a_seq, sq_nx, sq_rt, sq_ro, sq_bk, sq_ct, a_fl, a_sif, a_ret, a_retO, a_do, a_set, a_setO, a_app, a_setIx, a_for, a_forc, forGo_nil, fg_nx, fg_ct, fg_bk, fg_rt, fg_ro, a_par, par_ok, i_sub, i_add, i_neg, i_abs, i_gt, i_ge, i_lt, i_le, i_eq, i_ne, len_l, len_t, tup_l, i_max, i_min, isi_ok, isis_ok, eNm, eAt, eVar, setV, setO, sv_nil, sv_cons, bd_t, isO, scrAt, appO, startE, startR, startS, List.map_cons, List.map_nil, List.cons_append, List.nil_append, List.replicate_succ, List.replicate_zero, List.length_cons, List.length_nil, List.getElem?_cons_zero, List.getElem?_cons_succ, List.set_cons_zero, List.set_cons_succ, ↓reduceIte, Nat.reduceLT, Nat.reduceAdd, Nat.reduceSub, Nat.lt_add_one, Nat.zero_lt_succ, Nat.succ_lt_succ_iff, h, decide_false]
theorem p18 : CPow 10 18 := by decide
theorem state_ok (ns : List Int) (k : Nat) : ∃ ds, f__law_state ns [.int k] = .ok ds ∧ StOk ds := by
  obtain ⟨c, hc⟩ := cell_ok ns k
  have e18 : (10 : Int) ^ (18 : Int).toNat = 1000000000000000000 := rfl
  have n1 : (2147483647 : Int) ≠ 0 := by decide
  by_cases h : (1000000000000000000 : Int) ≤ c
  · refine ⟨[.int (c - 1000000000000000000), .bool true], a_runSO 3 _ _ _ _ (ρ' := [.scr ns, .val (.int k), .val (.int c)]) ?_, Or.inl ⟨_, by omega, rfl⟩⟩
    simp only [m__law_state, rb_ok, rb_exc, rb_bad, bIf_t, bIf_f, a_int, a_vl, a_e1, a_e2, a_L, a_nil, a_cons, a_tup, a_lst, a_B, asB_b, a_and, a_or, a_not, a_notV, a_andV, a_orV, a_if, a_rg1, a_rg2, asI_i, asS_l, asS_t, a_call, a_callO, a_callSO, a_callSV, a_lenS, a_ixS, a_callR, a_popAt, a_lift, a_lift2, a_seq, sq_nx, sq_rt, sq_ro, sq_bk, sq_ct, a_fl, a_sif, a_ret, a_retO, a_do, a_set, a_setO, a_app, a_setIx, a_for, a_forc, forGo_nil, fg_nx, fg_ct, fg_bk, fg_rt, fg_ro, a_par, par_ok, i_sub, i_add, i_neg, i_abs, i_gt, i_ge, i_lt, i_le, i_eq, i_ne, len_l, len_t, tup_l, i_max, i_min, isi_ok, isis_ok, eNm, eAt, eVar, setV, setO, sv_nil, sv_cons, bd_t, isO, scrAt, appO, startE, startR, startS, List.map_cons, List.map_nil, List.cons_append, List.nil_append, List.replicate_succ, List.replicate_zero, List.length_cons, List.length_nil, List.getElem?_cons_zero, List.getElem?_cons_succ, List.set_cons_zero, List.set_cons_succ, ↓reduceIte, Nat.reduceLT, Nat.reduceAdd, Nat.reduceSub, Nat.lt_add_one, Nat.zero_lt_succ, Nat.succ_lt_succ_iff, hc, i_pow p18, e18, h, decide_true, few_ok (ds := [_, _]) (by simp)]
  · have bs := fmod_b (a := c) (b := 2147483647) (by decide)
    refine ⟨[.int (c.fmod 2147483647), .bool false], a_runSO 3 _ _ _ _ (ρ' := [.scr ns, .val (.int k), .val (.int c)]) ?_, Or.inr ⟨_, bs.1, bs.2, rfl⟩⟩
    simp only [m__law_state, rb_ok, rb_exc, rb_bad, bIf_t, bIf_f, a_int, a_vl, a_e1, a_e2, a_L, a_nil, a_cons, a_tup, a_lst, a_B, asB_b, a_and, a_or, a_not, a_notV, a_andV, a_orV, a_if, a_rg1, a_rg2, asI_i, asS_l, asS_t, a_call, a_callO, a_callSO, a_callSV, a_lenS, a_ixS, a_callR, a_popAt, a_lift, a_lift2, a_seq, sq_nx, sq_rt, sq_ro, sq_bk, sq_ct, a_fl, a_sif, a_ret, a_retO, a_do, a_set, a_setO, a_app, a_setIx, a_for, a_forc, forGo_nil, fg_nx, fg_ct, fg_bk, fg_rt, fg_ro, a_par, par_ok, i_sub, i_add, i_neg, i_abs, i_gt, i_ge, i_lt, i_le, i_eq, i_ne, len_l, len_t, tup_l, i_max, i_min, isi_ok, isis_ok, eNm, eAt, eVar, setV, setO, sv_nil, sv_cons, bd_t, isO, scrAt, appO, startE, startR, startS, List.map_cons, List.map_nil, List.cons_append, List.nil_append, List.replicate_succ, List.replicate_zero, List.length_cons, List.length_nil, List.getElem?_cons_zero, List.getElem?_cons_succ, List.set_cons_zero, List.set_cons_succ, ↓reduceIte, Nat.reduceLT, Nat.reduceAdd, Nat.reduceSub, Nat.lt_add_one, Nat.zero_lt_succ, Nat.succ_lt_succ_iff, hc, i_pow p18, e18, h, decide_false, i_mod n1, few_ok (ds := [_, _]) (by simp)]
end LW

set_option Elab.async false
set_option linter.all false
set_option maxRecDepth 100000
set_option maxHeartbeats 4000000
namespace LW
open PySem PySem.Spec PyProof.Rows L2 VS
/-! ### a sign led, one behind the other -/
def led (t : List Int) (s : Int) : Int := if 0 < s then t.getD (s - 1).toNat 0 else 0 - t.getD (0 - s - 1).toNat 0
theorem led_ok {t : List Int} {s : Int} (h0 : s ≠ 0) (h1 : -(t.length : Int) ≤ s) (h2 : s ≤ t.length) : f_led_sign [dTup t, .int s] = .ok (.int (led t s)) := by
  unfold led
  by_cases h : 0 < s
  · rw [if_pos h]
    refine a_runBr 2 _ _ (ρ' := [.val (dTup t), .val (.int s)]) ?_
    have e := at_ints (t := t) (i := s - 1) (by omega) (by omega)
    simp only [m_led_sign, rb_ok, rb_exc, rb_bad, bIf_t, bIf_f, a_int, a_vl, a_e1, a_e2, a_L, a_nil, a_cons, a_tup, a_lst, a_B, asB_b, a_and, a_or, a_not, a_notV, a_andV, a_orV, a_if, a_rg1, a_rg2, asI_i, asS_l, asS_t, a_call, a_callO, a_callSO, a_callSV, a_lenS, a_ixS, a_callR, a_popAt, a_lift, a_lift2, a_seq, sq_nx, sq_rt, sq_ro, sq_bk, sq_ct, a_fl, a_sif, a_ret, a_retO, a_do, a_set, a_setO, a_app, a_setIx, a_for, a_forc, forGo_nil, fg_nx, fg_ct, fg_bk, fg_rt, fg_ro, a_par, par_ok, i_sub, i_add, i_neg, i_abs, i_gt, i_ge, i_lt, i_le, i_eq, i_ne, len_l, len_t, tup_l, i_max, i_min, isi_ok, isis_ok, eNm, eAt, eVar, setV, setO, sv_nil, sv_cons, bd_t, isO, scrAt, appO, startE, startR, startS, List.map_cons, List.map_nil, List.cons_append, List.nil_append, List.replicate_succ, List.replicate_zero, List.length_cons, List.length_nil, List.getElem?_cons_zero, List.getElem?_cons_succ, List.set_cons_zero, List.set_cons_succ, ↓reduceIte, Nat.reduceLT, Nat.reduceAdd, Nat.reduceSub, Nat.lt_add_one, Nat.zero_lt_succ, Nat.succ_lt_succ_iff, h, decide_true, ix_t e]
  · rw [if_neg h]
    refine a_runBr 2 _ _ (ρ' := [.val (dTup t), .val (.int s)]) ?_
    have e := at_ints (t := t) (i := 0 - s - 1) (by omega) (by omega)
    simp only [m_led_sign, rb_ok, rb_exc, rb_bad, bIf_t, bIf_f, a_int, a_vl, a_e1, a_e2, a_L, a_nil, a_cons, a_tup, a_lst, a_B, asB_b, a_and, a_or, a_not, a_notV, a_andV, a_orV, a_if, a_rg1, a_rg2, asI_i, asS_l, asS_t, a_call, a_callO, a_callSO, a_callSV, a_lenS, a_ixS, a_callR, a_popAt, a_lift, a_lift2, a_seq, sq_nx, sq_rt, sq_ro, sq_bk, sq_ct, a_fl, a_sif, a_ret, a_retO, a_do, a_set, a_setO, a_app, a_setIx, a_for, a_forc, forGo_nil, fg_nx, fg_ct, fg_bk, fg_rt, fg_ro, a_par, par_ok, i_sub, i_add, i_neg, i_abs, i_gt, i_ge, i_lt, i_le, i_eq, i_ne, len_l, len_t, tup_l, i_max, i_min, isi_ok, isis_ok, eNm, eAt, eVar, setV, setO, sv_nil, sv_cons, bd_t, isO, scrAt, appO, startE, startR, startS, List.map_cons, List.map_nil, List.cons_append, List.nil_append, List.replicate_succ, List.replicate_zero, List.length_cons, List.length_nil, List.getElem?_cons_zero, List.getElem?_cons_succ, List.set_cons_zero, List.set_cons_succ, ↓reduceIte, Nat.reduceLT, Nat.reduceAdd, Nat.reduceSub, Nat.lt_add_one, Nat.zero_lt_succ, Nat.succ_lt_succ_iff, h, decide_false, ix_t e]
theorem lled_ok {t : List Int} {s : Int} (h0 : s ≠ 0) (h1 : -(t.length : Int) ≤ s) (h2 : s ≤ t.length) : f__law_led_sign [dTup t, .int s] = .ok (.int (led t s)) := by
  unfold led
  have c1 : CMul (t.getD (s - 1).toNat 0) 1 := cmul_r (by decide) (by decide)
  have c2 : CMul (t.getD (-s - 1).toNat 0) (-1) := cmul_r (by decide) (by decide)
  have fw : few [PyData.int 1, PyData.int (-1)] = .ok [PyData.int 1, PyData.int (-1)] := few_ok (by simp)
  by_cases h : 0 < s
  · rw [if_pos h]
    have e := at_ints (t := t) (i := s - 1) (by omega) (by omega)
    have h3 : ¬ s < 0 := by omega
    refine a_runBr 2 _ _ (ρ' := [.val (dTup t), .val (.int s)]) ?_
    simp only [m__law_led_sign, rb_ok, rb_exc, rb_bad, bIf_t, bIf_f, a_int, a_vl, a_e1, a_e2, a_L, a_nil, a_cons, a_tup, a_lst, a_B, asB_b, a_and, a_or, a_not, a_notV, a_andV, a_orV, a_if, a_rg1, a_rg2, asI_i, asS_l, asS_t, a_call, a_callO, a_callSO, a_callSV, a_lenS, a_ixS, a_callR, a_popAt, a_lift, a_lift2, a_seq, sq_nx, sq_rt, sq_ro, sq_bk, sq_ct, a_fl, a_sif, a_ret, a_retO, a_do, a_set, a_setO, a_app, a_setIx, a_for, a_forc, forGo_nil, fg_nx, fg_ct, fg_bk, fg_rt, fg_ro, a_par, par_ok, i_sub, i_add, i_neg, i_abs, i_gt, i_ge, i_lt, i_le, i_eq, i_ne, len_l, len_t, tup_l, i_max, i_min, isi_ok, isis_ok, eNm, eAt, eVar, setV, setO, sv_nil, sv_cons, bd_t, isO, scrAt, appO, startE, startR, startS, List.map_cons, List.map_nil, List.cons_append, List.nil_append, List.replicate_succ, List.replicate_zero, List.length_cons, List.length_nil, List.getElem?_cons_zero, List.getElem?_cons_succ, List.set_cons_zero, List.set_cons_succ, ↓reduceIte, Nat.reduceLT, Nat.reduceAdd, Nat.reduceSub, Nat.lt_add_one, Nat.zero_lt_succ, Nat.succ_lt_succ_iff, h3, decide_false, ix_t e, i_intB, Bool.false_eq_true, if_false, ix_l at0, ix_l at1, i_mul c1, fw, Int.mul_one]
  · rw [if_neg h]
    have h3 : s < 0 := by omega
    have e := at_ints (t := t) (i := -s - 1) (by omega) (by omega)
    refine a_runBr 2 _ _ (ρ' := [.val (dTup t), .val (.int s)]) ?_
    have e2 : (0 - s - 1 : Int) = -s - 1 := by omega
    have e3 : ∀ x : Int, x * (-1) = 0 - x := fun x => by omega
    simp only [m__law_led_sign, rb_ok, rb_exc, rb_bad, bIf_t, bIf_f, a_int, a_vl, a_e1, a_e2, a_L, a_nil, a_cons, a_tup, a_lst, a_B, asB_b, a_and, a_or, a_not, a_notV, a_andV, a_orV, a_if, a_rg1, a_rg2, asI_i, asS_l, asS_t, a_call, a_callO, a_callSO, a_callSV, a_lenS, a_ixS, a_callR, a_popAt, a_lift, a_lift2, a_seq, sq_nx, sq_rt, sq_ro, sq_bk, sq_ct, a_fl, a_sif, a_ret, a_retO, a_do, a_set, a_setO, a_app, a_setIx, a_for, a_forc, forGo_nil, fg_nx, fg_ct, fg_bk, fg_rt, fg_ro, a_par, par_ok, i_sub, i_add, i_neg, i_abs, i_gt, i_ge, i_lt, i_le, i_eq, i_ne, len_l, len_t, tup_l, i_max, i_min, isi_ok, isis_ok, eNm, eAt, eVar, setV, setO, sv_nil, sv_cons, bd_t, isO, scrAt, appO, startE, startR, startS, List.map_cons, List.map_nil, List.cons_append, List.nil_append, List.replicate_succ, List.replicate_zero, List.length_cons, List.length_nil, List.getElem?_cons_zero, List.getElem?_cons_succ, List.set_cons_zero, List.set_cons_succ, ↓reduceIte, Nat.reduceLT, Nat.reduceAdd, Nat.reduceSub, Nat.lt_add_one, Nat.zero_lt_succ, Nat.succ_lt_succ_iff, h3, decide_true, ix_t e, i_intB, if_true, ix_l at0, ix_l at1, i_mul c2, fw, e2, e3]
/-- signs of as many names -/
def Sgs (n : Nat) (t : List Int) : Prop := t.length = n ∧ ∀ s ∈ t, s ≠ 0 ∧ -(n : Int) ≤ s ∧ s ≤ n
/-! ### the still one -/
def stillL (n : Nat) : List Int := (List.range ((n : Int) + 1 - 1).toNat).map fun i : Nat => 1 + (i : Int)
theorem rgok {n : Nat} (h : n ≤ 64) : RgOk 1 ((n : Int) + 1) := by unfold RgOk; refine ⟨by decide, by decide, by omega, by omega, by omega⟩
theorem rgT1 {n : Nat} (h : n ≤ 64) : gRgT (1, (n : Int) + 1) = .ok (dTup (stillL n)) := rgT_ok (rgok h)
theorem rgL1 {n : Nat} (h : n ≤ 64) : gRgL (1, (n : Int) + 1) = .ok (dInts (stillL n)) := rgL_ok (rgok h)
theorem rgTn {n : Nat} (h : n ≤ 64) {ma mb : M (M D)} {ρ ρ' : En} (h1 : eRg2 ma mb ρ = .ok ((1, (n : Int) + 1), ρ')) : (eRg2 ma mb >>= fun p => M.lift (gRgT p)) ρ = .ok (dTup (stillL n), ρ') := by
  rw [a_lift, h1, rb_ok, rgT1 h, rb_ok]
theorem rgLn {n : Nat} (h : n ≤ 64) {ma mb : M (M D)} {ρ ρ' : En} (h1 : eRg2 ma mb ρ = .ok ((1, (n : Int) + 1), ρ')) : (eRg2 ma mb >>= fun p => M.lift (gRgL p)) ρ = .ok (dInts (stillL n), ρ') := by
  rw [a_lift, h1, rb_ok, rgL1 h, rb_ok]
/-! ### alike -/
theorem same_int (i j : Int) : f__law_same [.int i, .int j] = .ok (.bool (decide (i = j))) := by
  refine a_runBr 4 _ _ (ρ' := [.val (.int i), .val (.int j), .emp, .emp]) ?_
  have e1 : isTys ["tuple", "list"] (.int j) = false := rfl
  have e2 : dEq (.bool false) (.bool false) = .ok (.bool true) := rfl
  have e3 : isTy "bool" (.int i) = false := rfl
  have e4 : isTy "bool" (.int j) = false := rfl
  by_cases h : i = j
  · simp only [m__law_same, rb_ok, rb_exc, rb_bad, bIf_t, bIf_f, a_int, a_vl, a_e1, a_e2, a_L, a_nil, a_cons, a_tup, a_lst, a_B, asB_b, a_and, a_or, a_not, a_notV, a_andV, a_orV, a_if, a_rg1, a_rg2, asI_i, asS_l, asS_t, a_call, a_callO, a_callSO, a_callSV, a_lenS, a_ixS, a_callR, a_popAt, a_lift, a_lift2, a_seq, sq_nx, sq_rt, sq_ro, sq_bk, sq_ct, a_fl, a_sif, a_ret, a_retO, a_do, a_set, a_setO, a_app, a_setIx, a_for, a_forc, forGo_nil, fg_nx, fg_ct, fg_bk, fg_rt, fg_ro, a_par, par_ok, i_sub, i_add, i_neg, i_abs, i_gt, i_ge, i_lt, i_le, i_eq, i_ne, len_l, len_t, tup_l, i_max, i_min, isi_ok, isis_ok, eNm, eAt, eVar, setV, setO, sv_nil, sv_cons, bd_t, isO, scrAt, appO, startE, startR, startS, List.map_cons, List.map_nil, List.cons_append, List.nil_append, List.replicate_succ, List.replicate_zero, List.length_cons, List.length_nil, List.getElem?_cons_zero, List.getElem?_cons_succ, List.set_cons_zero, List.set_cons_succ, ↓reduceIte, Nat.reduceLT, Nat.reduceAdd, Nat.reduceSub, Nat.lt_add_one, Nat.zero_lt_succ, Nat.succ_lt_succ_iff, e1, e2, e3, e4, h, decide_true]
  · simp only [m__law_same, rb_ok, rb_exc, rb_bad, bIf_t, bIf_f, a_int, a_vl, a_e1, a_e2, a_L, a_nil, a_cons, a_tup, a_lst, a_B, asB_b, a_and, a_or, a_not, a_notV, a_andV, a_orV, a_if, a_rg1, a_rg2, asI_i, asS_l, asS_t, a_call, a_callO, a_callSO, a_callSV, a_lenS, a_ixS, a_callR, a_popAt, a_lift, a_lift2, a_seq, sq_nx, sq_rt, sq_ro, sq_bk, sq_ct, a_fl, a_sif, a_ret, a_retO, a_do, a_set, a_setO, a_app, a_setIx, a_for, a_forc, forGo_nil, fg_nx, fg_ct, fg_bk, fg_rt, fg_ro, a_par, par_ok, i_sub, i_add, i_neg, i_abs, i_gt, i_ge, i_lt, i_le, i_eq, i_ne, len_l, len_t, tup_l, i_max, i_min, isi_ok, isis_ok, eNm, eAt, eVar, setV, setO, sv_nil, sv_cons, bd_t, isO, scrAt, appO, startE, startR, startS, List.map_cons, List.map_nil, List.cons_append, List.nil_append, List.replicate_succ, List.replicate_zero, List.length_cons, List.length_nil, List.getElem?_cons_zero, List.getElem?_cons_succ, List.set_cons_zero, List.set_cons_succ, ↓reduceIte, Nat.reduceLT, Nat.reduceAdd, Nat.reduceSub, Nat.lt_add_one, Nat.zero_lt_succ, Nat.succ_lt_succ_iff, e1, e2, e3, e4, h, decide_false]
theorem fr_int (n : Nat) (i j : Int) : fr__law_same (n + 1) [.int i, .int j] = .ok (.bool (decide (i = j))) := by
  refine a_runBr 4 _ _ (ρ' := [.val (.int i), .val (.int j), .emp, .emp]) ?_
  have e1 : isTys ["tuple", "list"] (.int j) = false := rfl
  have e2 : dEq (.bool false) (.bool false) = .ok (.bool true) := rfl
  have e3 : isTy "bool" (.int i) = false := rfl
  have e4 : isTy "bool" (.int j) = false := rfl
  by_cases h : i = j
  · simp only [m__law_same, rb_ok, rb_exc, rb_bad, bIf_t, bIf_f, a_int, a_vl, a_e1, a_e2, a_L, a_nil, a_cons, a_tup, a_lst, a_B, asB_b, a_and, a_or, a_not, a_notV, a_andV, a_orV, a_if, a_rg1, a_rg2, asI_i, asS_l, asS_t, a_call, a_callO, a_callSO, a_callSV, a_lenS, a_ixS, a_callR, a_popAt, a_lift, a_lift2, a_seq, sq_nx, sq_rt, sq_ro, sq_bk, sq_ct, a_fl, a_sif, a_ret, a_retO, a_do, a_set, a_setO, a_app, a_setIx, a_for, a_forc, forGo_nil, fg_nx, fg_ct, fg_bk, fg_rt, fg_ro, a_par, par_ok, i_sub, i_add, i_neg, i_abs, i_gt, i_ge, i_lt, i_le, i_eq, i_ne, len_l, len_t, tup_l, i_max, i_min, isi_ok, isis_ok, eNm, eAt, eVar, setV, setO, sv_nil, sv_cons, bd_t, isO, scrAt, appO, startE, startR, startS, List.map_cons, List.map_nil, List.cons_append, List.nil_append, List.replicate_succ, List.replicate_zero, List.length_cons, List.length_nil, List.getElem?_cons_zero, List.getElem?_cons_succ, List.set_cons_zero, List.set_cons_succ, ↓reduceIte, Nat.reduceLT, Nat.reduceAdd, Nat.reduceSub, Nat.lt_add_one, Nat.zero_lt_succ, Nat.succ_lt_succ_iff, e1, e2, e3, e4, h, decide_true]
  · simp only [m__law_same, rb_ok, rb_exc, rb_bad, bIf_t, bIf_f, a_int, a_vl, a_e1, a_e2, a_L, a_nil, a_cons, a_tup, a_lst, a_B, asB_b, a_and, a_or, a_not, a_notV, a_andV, a_orV, a_if, a_rg1, a_rg2, asI_i, asS_l, asS_t, a_call, a_callO, a_callSO, a_callSV, a_lenS, a_ixS, a_callR, a_popAt, a_lift, a_lift2, a_seq, sq_nx, sq_rt, sq_ro, sq_bk, sq_ct, a_fl, a_sif, a_ret, a_retO, a_do, a_set, a_setO, a_app, a_setIx, a_for, a_forc, forGo_nil, fg_nx, fg_ct, fg_bk, fg_rt, fg_ro, a_par, par_ok, i_sub, i_add, i_neg, i_abs, i_gt, i_ge, i_lt, i_le, i_eq, i_ne, len_l, len_t, tup_l, i_max, i_min, isi_ok, isis_ok, eNm, eAt, eVar, setV, setO, sv_nil, sv_cons, bd_t, isO, scrAt, appO, startE, startR, startS, List.map_cons, List.map_nil, List.cons_append, List.nil_append, List.replicate_succ, List.replicate_zero, List.length_cons, List.length_nil, List.getElem?_cons_zero, List.getElem?_cons_succ, List.set_cons_zero, List.set_cons_succ, ↓reduceIte, Nat.reduceLT, Nat.reduceAdd, Nat.reduceSub, Nat.lt_add_one, Nat.zero_lt_succ, Nat.succ_lt_succ_iff, e1, e2, e3, e4, h, decide_false]
theorem zip_self : ∀ t : List Int, zipD (dInts t) (dInts t) = t.map fun s => PyData.tuple [.int s, .int s]
  | [] => rfl
  | s :: t => by
    show PyData.tuple [.int s, .int s] :: zipD (dInts t) (dInts t) = _
    rw [zip_self t]; rfl
theorem bools_map (f : List Bool → Bool) (bs : List Bool) : gBools f (.list (bs.map .bool)) = .ok (.bool (f bs)) := by
  have e : boolsOf (bs.map PyData.bool) = some bs := by
    induction bs with
    | nil => rfl
    | cons b bs ih => simp only [List.map_cons, boolsOf, ih, Option.map_some]
  simp only [gBools, e]
theorem same_tup {t : List Int} (hl : t.length ≤ 64) : f__law_same [dTup t, dTup t] = .ok (.bool true) := by
  refine a_runBr 4 _ _ (ρ' := [.val (dTup t), .val (dTup t), .emp, .emp]) ?_
  have e1 : isTys ["tuple", "list"] (dTup t) = true := rfl
  have e2 : dNe (.bool true) (.bool true) = .ok (.bool false) := rfl
  have e3 : dNe (.bool false) (.bool false) = .ok (.bool false) := rfl
  have e4 : isTy "tuple" (dTup t) = true := rfl
  have e5 : isTy "list" (dTup t) = false := rfl
  have key := eLc_map (vs := [2, 3]) (mi := (eVar 0) >>= fun d => (eVar 1) >>= fun e => M.lift (gZip d e)) (bd := bdT [2, 3]) (me := eCall (fr__law_same 7) (eCons (eVar 2) (eCons (eVar 3) (pure [])))) (ρ := [.val (dTup t), .val (dTup t), .emp, .emp]) (ρ1 := [.val (dTup t), .val (dTup t), .emp, .emp]) (ds := t.map fun s => PyData.tuple [.int s, .int s])
    (fun d => .bool true) (by
      have z : gZip (dTup t) (dTup t) = .ok (t.map fun s => PyData.tuple [.int s, .int s]) := by rw [← zip_self]; rfl
      simp only [rb_ok, rb_exc, rb_bad, bIf_t, bIf_f, a_int, a_vl, a_e1, a_e2, a_L, a_nil, a_cons, a_tup, a_lst, a_B, asB_b, a_and, a_or, a_not, a_notV, a_andV, a_orV, a_if, a_rg1, a_rg2, asI_i, asS_l, asS_t, a_call, a_callO, a_callSO, a_callSV, a_lenS, a_ixS, a_callR, a_popAt, a_lift, a_lift2, a_seq, sq_nx, sq_rt, sq_ro, sq_bk, sq_ct, a_fl, a_sif, a_ret, a_retO, a_do, a_set, a_setO, a_app, a_setIx, a_for, a_forc, forGo_nil, fg_nx, fg_ct, fg_bk, fg_rt, fg_ro, a_par, par_ok, i_sub, i_add, i_neg, i_abs, i_gt, i_ge, i_lt, i_le, i_eq, i_ne, len_l, len_t, tup_l, i_max, i_min, isi_ok, isis_ok, eNm, eAt, eVar, setV, setO, sv_nil, sv_cons, bd_t, isO, scrAt, appO, startE, startR, startS, List.map_cons, List.map_nil, List.cons_append, List.nil_append, List.replicate_succ, List.replicate_zero, List.length_cons, List.length_nil, List.getElem?_cons_zero, List.getElem?_cons_succ, List.set_cons_zero, List.set_cons_succ, ↓reduceIte, Nat.reduceLT, Nat.reduceAdd, Nat.reduceSub, Nat.lt_add_one, Nat.zero_lt_succ, Nat.succ_lt_succ_iff, z]) (by rfl) (by rw [List.length_map]; exact Nat.le_trans hl (by rw [sizeLine_eq]; decide)) (fun d hd => by
      obtain ⟨s, hs, rfl⟩ := List.mem_map.mp hd
      refine ⟨[.val (dTup t), .val (dTup t), .val (.int s), .val (.int s)], [.val (dTup t), .val (dTup t), .val (.int s), .val (.int s)], rfl, ?_, rfl⟩
      simp only [rb_ok, rb_exc, rb_bad, bIf_t, bIf_f, a_int, a_vl, a_e1, a_e2, a_L, a_nil, a_cons, a_tup, a_lst, a_B, asB_b, a_and, a_or, a_not, a_notV, a_andV, a_orV, a_if, a_rg1, a_rg2, asI_i, asS_l, asS_t, a_call, a_callO, a_callSO, a_callSV, a_lenS, a_ixS, a_callR, a_popAt, a_lift, a_lift2, a_seq, sq_nx, sq_rt, sq_ro, sq_bk, sq_ct, a_fl, a_sif, a_ret, a_retO, a_do, a_set, a_setO, a_app, a_setIx, a_for, a_forc, forGo_nil, fg_nx, fg_ct, fg_bk, fg_rt, fg_ro, a_par, par_ok, i_sub, i_add, i_neg, i_abs, i_gt, i_ge, i_lt, i_le, i_eq, i_ne, len_l, len_t, tup_l, i_max, i_min, isi_ok, isis_ok, eNm, eAt, eVar, setV, setO, sv_nil, sv_cons, bd_t, isO, scrAt, appO, startE, startR, startS, List.map_cons, List.map_nil, List.cons_append, List.nil_append, List.replicate_succ, List.replicate_zero, List.length_cons, List.length_nil, List.getElem?_cons_zero, List.getElem?_cons_succ, List.set_cons_zero, List.set_cons_succ, ↓reduceIte, Nat.reduceLT, Nat.reduceAdd, Nat.reduceSub, Nat.lt_add_one, Nat.zero_lt_succ, Nat.succ_lt_succ_iff, fr_int 6, decide_true])
  have e6 : (List.map (fun d : D => PyData.bool true) (t.map fun s => PyData.tuple [.int s, .int s])) = (t.map fun _ => true).map PyData.bool := by
    rw [List.map_map, List.map_map]; rfl
  rw [e6] at key
  have e7 : ((t.map fun _ => true).all id) = true := by simp
  simp only [m__law_same, rb_ok, rb_exc, rb_bad, bIf_t, bIf_f, a_int, a_vl, a_e1, a_e2, a_L, a_nil, a_cons, a_tup, a_lst, a_B, asB_b, a_and, a_or, a_not, a_notV, a_andV, a_orV, a_if, a_rg1, a_rg2, asI_i, asS_l, asS_t, a_call, a_callO, a_callSO, a_callSV, a_lenS, a_ixS, a_callR, a_popAt, a_lift, a_lift2, a_seq, sq_nx, sq_rt, sq_ro, sq_bk, sq_ct, a_fl, a_sif, a_ret, a_retO, a_do, a_set, a_setO, a_app, a_setIx, a_for, a_forc, forGo_nil, fg_nx, fg_ct, fg_bk, fg_rt, fg_ro, a_par, par_ok, i_sub, i_add, i_neg, i_abs, i_gt, i_ge, i_lt, i_le, i_eq, i_ne, len_l, len_t, tup_l, i_max, i_min, isi_ok, isis_ok, eNm, eAt, eVar, setV, setO, sv_nil, sv_cons, bd_t, isO, scrAt, appO, startE, startR, startS, List.map_cons, List.map_nil, List.cons_append, List.nil_append, List.replicate_succ, List.replicate_zero, List.length_cons, List.length_nil, List.getElem?_cons_zero, List.getElem?_cons_succ, List.set_cons_zero, List.set_cons_succ, ↓reduceIte, Nat.reduceLT, Nat.reduceAdd, Nat.reduceSub, Nat.lt_add_one, Nat.zero_lt_succ, Nat.succ_lt_succ_iff, e1, e2, e3, e4, e5, decide_true, key, bools_map, e7]
  rfl
end LW

set_option Elab.async false
set_option linter.all false
set_option maxRecDepth 100000
set_option maxHeartbeats 4000000
namespace LW
open PySem PySem.Spec PyProof.Rows L2 VS
/-! ### all turnings -/
def allT : Nat → List Int → List (List Int)
  | 0, _ => [[]]
  | k + 1, rest => (List.range rest.length).flatMap fun i => (allT k (rest.eraseIdx i)).flatMap fun r => [rest.getD i 0 :: r, -(rest.getD i 0) :: r]
def Trn (n : Nat) (t : List Int) : Prop := t ∈ allT n (stillL n)
/-! ### the turning drawn -/
theorem er_map : ∀ (t : List Int) (i : Nat), (t.map PyData.int).eraseIdx i = (t.eraseIdx i).map PyData.int
  | [], _ => rfl
  | _ :: _, 0 => rfl
  | x :: t, i + 1 => by simp only [List.map_cons, List.eraseIdx_cons_succ, er_map t i]
theorem popAt_ok {i : Nat} {ρ : En} {rest : List Int} {r : Int} (h : ρ[i]? = some (.own (dInts rest))) (h0 : 0 ≤ r) (h1 : r < rest.length) (h2 : rest.length ≤ 64) : popAtO i (.int r) ρ = .ok (.int (rest.getD r.toNat 0), ρ.set i (.own (dInts (rest.eraseIdx r.toNat)))) := by
  have h3 : r.toNat < rest.length := by omega
  have hs : seqIndex? r (dInts rest).length = some r.toNat := by
    have hi : ixN (dInts rest).length r = some r.toNat := by
      unfold ixN
      rw [List.length_map, if_pos h0, if_pos h1]
    exact (ixN_seq hi).1
  have hg : (dInts rest)[r.toNat]? = some (PyData.int (rest.getD r.toNat 0)) := by
    simp [List.getD, h3]
  have he : (dInts rest).eraseIdx r.toNat = dInts (rest.eraseIdx r.toNat) := by
    unfold dInts
    exact er_map rest _
  unfold popAtO
  rw [h]
  show (if -(2 ^ 63) ≤ r ∧ r < 2 ^ 63 then (match seqIndex? r (dInts rest).length with
      | some j => (match (dInts rest)[j]? with
        | some d => Res.ok (d, ρ.set i (.own ((dInts rest).eraseIdx j)))
        | none => .bad)
      | none => .bad) else .bad) = _
  rw [if_pos ⟨by omega, by omega⟩, hs]
  show (match (dInts rest)[r.toNat]? with
        | some d => Res.ok (d, ρ.set i (.own ((dInts rest).eraseIdx r.toNat)))
        | none => .bad) = _
  rw [hg]
  show Res.ok (_, _) = _
  rw [he]
theorem slt : (64 : Nat) < sizeLine := by rw [sizeLine_eq]; decide
theorem app_ok {ρ : En} {i : Nat} {ds : List D} {d : D} (h : ρ[i]? = some (.own ds)) (hl : ds.length ≤ 64) : appO i d ρ = .ok ((), ρ.set i (.own (ds ++ [d]))) := by
  unfold appO
  rw [h]
  show (if ds.length < sizeLine then _ else _) = _
  rw [if_pos (Nat.lt_of_le_of_lt hl slt)]
theorem mem_allT {k : Nat} {rest : List Int} {i : Nat} {r : List Int} (hi : i < rest.length) (h : r ∈ allT k (rest.eraseIdx i)) : rest.getD i 0 :: r ∈ allT (k + 1) rest ∧ -(rest.getD i 0) :: r ∈ allT (k + 1) rest := by
  constructor
  all_goals
    refine List.mem_flatMap.mpr ⟨i, List.mem_range.mpr hi, List.mem_flatMap.mpr ⟨r, h, ?_⟩⟩
    simp
theorem isO_at {i : Nat} {ρ : En} {ds : List D} (h : ρ[i]? = some (.own ds)) : isO i ρ = .ok ((), ρ) := by
  unfold isO
  rw [h]
theorem turn_step {st rest found : List D} (n : Int) {rs fs : List Int} {x : Sl} (hs : StOk st) (h0 : 0 < rs.length) (h1 : rs.length ≤ 64) (h2 : fs.length ≤ 64) :
    ∃ st' i, StOk st' ∧ i < rs.length ∧ ∃ z, (z = rs.getD i 0 ∨ z = -(rs.getD i 0)) ∧
      (sApp' 3 (e2 dMul (eVl (ePopAt 2 (eCallR 0 f__law_take (eCons (e1 gLen (eNm 2)) (pure []))))) (eVl (e2 dIx (eVl (eL (eLst (eCons (pure (.int 1)) (eCons (e1 dNeg (eVl (pure (.int 1)))) (pure [])))))) (eVl (eCallR 0 f__law_take (eCons (pure (.int 2)) (pure [])))))))) [.own st, .val (.int n), .own (dInts rs), .own (dInts fs), x] =
      .ok (.nx, [.own st', .val (.int n), .own (dInts (rs.eraseIdx i)), .own (dInts (fs ++ [z])), x]) := by
  obtain ⟨r, st1, e1, r0, r1, s1⟩ := take_ok (m := (rs.length : Int)) hs (by omega) (by omega)
  obtain ⟨q, st2, e2, q0, q1, s2⟩ := take_ok (m := 2) s1 (by decide) (by decide)
  have e1' : f__law_take st [.int ((dInts rs).length : Nat)] = .ok (.int r, st1) := by rw [List.length_map]; exact e1
  have hc1 := fun ρ : En => callO_at (i := 0) (ρ := Sl.own st :: ρ) (f := f__law_take) rfl e1'
  have hc2 := fun ρ : En => callO_at (i := 0) (ρ := Sl.own st1 :: ρ) (f := f__law_take) rfl e2
  have hp := popAt_ok (i := 2) (ρ := [.own st1, .val (.int n), .own (dInts rs), .own (dInts fs), x]) rfl r0 r1 h1
  have fw : few [PyData.int 1, PyData.int (-1)] = .ok [PyData.int 1, PyData.int (-1)] := few_ok (by simp)
  have c1 : CMul (rs.getD r.toNat 0) 1 := cmul_r (by decide) (by decide)
  have c2 : CMul (rs.getD r.toNat 0) (-1) := cmul_r (by decide) (by decide)
  have ha : ∀ d, appO 3 d [.own st2, .val (.int n), .own (dInts (rs.eraseIdx r.toNat)), .own (dInts fs), x] = .ok ((), [.own st2, .val (.int n), .own (dInts (rs.eraseIdx r.toNat)), .own (dInts fs ++ [d]), x]) := fun d => app_ok (i := 3) rfl (by rw [List.length_map]; exact h2)
  have hq : q = 0 ∨ q = 1 := by omega
  have app : ∀ z, dInts fs ++ [PyData.int z] = dInts (fs ++ [z]) := fun z => by unfold dInts; rw [List.map_append]; rfl
  rcases hq with rfl | rfl
  · refine ⟨st2, r.toNat, s2, by omega, _, Or.inl rfl, ?_⟩
    rw [← app]
    rw [a_app]
    simp only [rb_ok, a_e2, a_vl, a_popAt, a_callR, a_cons, a_e1, eNm, eAt, isO, List.getElem?_cons_zero, List.getElem?_cons_succ, len_l, a_nil, hc1, hc2, hp, List.set_cons_zero, List.set_cons_succ, a_int, a_L, a_lst, i_neg, fw, ix_l at0, i_mul c1, ha, Int.mul_one]
  · refine ⟨st2, r.toNat, s2, by omega, _, Or.inr rfl, ?_⟩
    have e3 : ∀ x : Int, x * (-1) = -x := fun x => by omega
    rw [← app]
    rw [a_app]
    simp only [rb_ok, a_e2, a_vl, a_popAt, a_callR, a_cons, a_e1, eNm, eAt, isO, List.getElem?_cons_zero, List.getElem?_cons_succ, len_l, a_nil, hc1, hc2, hp, List.set_cons_zero, List.set_cons_succ, a_int, a_L, a_lst, i_neg, fw, ix_l at1, i_mul c2, ha, e3]
theorem still_len (n : Nat) : (stillL n).length = n := by
  unfold stillL
  rw [List.length_map, List.length_range]
  omega
abbrev turnB : M Fl := sApp' 3 (e2 dMul (eVl (ePopAt 2 (eCallR 0 f__law_take (eCons (e1 gLen (eNm 2)) (pure []))))) (eVl (e2 dIx (eVl (eL (eLst (eCons (pure (.int 1)) (eCons (e1 dNeg (eVl (pure (.int 1)))) (pure [])))))) (eVl (eCallR 0 f__law_take (eCons (pure (.int 2)) (pure [])))))))
def rg0 (n : Nat) : List D := dInts ((List.range ((n : Int) - 0).toNat).map fun i : Nat => 0 + (i : Int))
theorem rg0_len (n : Nat) : (rg0 n).length = n := by
  unfold rg0
  rw [List.length_map, List.length_map, List.length_range]; omega
theorem rg0_ok {n : Nat} (hn : n ≤ 64) : gRg (0, (n : Int)) = .ok (rg0 n) := rg_ok (by unfold RgB; refine ⟨by decide, by decide, by omega, by omega⟩)
theorem turn_loop {st : List D} {n : Nat} (hs : StOk st) (hn : n ≤ 5) : ∃ t st' x, forGo (setV 4) turnB (rg0 n) [.own st, .val (.int n), .own (dInts (stillL n)), .own [], .emp] = .ok (.nx, [.own st', .val (.int n), .own [], .own (dInts t), x]) ∧ Trn n t ∧ StOk st' := by
  let I : List D → En → Prop := fun ds ρ => ∃ st rs fs x, ρ = [.own st, .val (.int n), .own (dInts rs), .own (dInts fs), x] ∧ StOk st ∧ rs.length = ds.length ∧ fs.length + rs.length = n ∧ (∀ d ∈ ds, ∃ i : Int, d = .int i) ∧ ∀ r ∈ allT rs.length rs, fs ++ r ∈ allT n (stillL n)
  have step : ∀ d ds ρ, I (d :: ds) ρ → ∃ ρ1 ρ2, setV 4 d ρ = .ok ((), ρ1) ∧ turnB ρ1 = .ok (.nx, ρ2) ∧ I ds ρ2 := by
    rintro d ds ρ ⟨st, rs, fs, x, rfl, hs, hl, hk, hd, ha⟩
    rw [List.length_cons] at hl
    obtain ⟨st', i, s', hi, z, hz, e⟩ := turn_step (rest := []) (found := []) n (x := .val d) hs (rs := rs) (fs := fs) (by omega) (by omega) (by omega)
    refine ⟨[.own st, .val (.int n), .own (dInts rs), .own (dInts fs), .val d], _, rfl, e, st', rs.eraseIdx i, fs ++ [z], _, rfl, s', ?_, ?_, fun d m => hd d (List.mem_cons_of_mem _ m), ?_⟩
    · rw [List.length_eraseIdx, if_pos hi]; omega
    · rw [List.length_eraseIdx, if_pos hi, List.length_append]; simp; omega
    · intro r hr
      have hle : (rs.eraseIdx i).length + 1 = rs.length := by rw [List.length_eraseIdx, if_pos hi]; omega
      obtain ⟨m1, m2⟩ := mem_allT hi hr
      rw [hle] at m1 m2
      rw [List.append_assoc]
      rcases hz with rfl | rfl
      · exact ha _ m1
      · exact ha _ m2
  obtain ⟨ρ', e, st', rs, fs, x, rfl, hs', hl, hk, _, ha⟩ := forGo_inv I step (rg0 n) [.own st, .val (.int n), .own (dInts (stillL n)), .own [], .emp] ⟨st, stillL n, [], .emp, rfl, hs, by rw [still_len, rg0_len], by rw [still_len]; simp, fun d hd => by
      obtain ⟨i, _, rfl⟩ := List.mem_map.mp hd
      exact ⟨i, rfl⟩, fun r hr => by rw [still_len] at hr; exact hr⟩
  have hr0 : rs = [] := List.length_eq_zero_iff.mp (by simpa using hl)
  subst hr0
  exact ⟨fs, st', x, e, (show fs ∈ allT n (stillL n) by simpa [allT] using ha [] (by simp [allT])), hs'⟩
theorem rg0_at {n : Nat} (hn : n ≤ 64) (ρ : En) (h : ρ[1]? = some (.val (.int n))) : (eRg1 (eNm 1) >>= fun p => M.lift (gRg p)) ρ = .ok (rg0 n, ρ) := by
  have k3 : (eRg1 (eNm 1)) ρ = .ok ((0, (n : Int)), ρ) := by simp only [a_rg1, eNm, h, rb_ok, eAt, asI_i]
  rw [a_lift, k3, rb_ok, rg0_ok hn, rb_ok]
theorem turning_ok {st : List D} {n : Nat} (hs : StOk st) (hn : n ≤ 5) : ∃ t st', f__law_turning st [.int n] = .ok (dTup t, st') ∧ Trn n t ∧ StOk st' := by
  obtain ⟨t, st', x, e, ht, hs'⟩ := turn_loop hs hn
  refine ⟨t, st', ?_, ht, hs'⟩
  refine a_runR 5 _ _ _ (ρ' := [.val (.int n), .own [], .own (dInts t), x]) ?_
  have k1 : ((eRg2 (eVl (pure (.int 1))) (eVl (e2 dAddL (eNm 1) (eVl (pure (.int 1)))))) >>= fun p => M.lift (gRgL p)) [.own st, .val (.int n), .emp, .emp, .emp] = .ok (dInts (stillL n), [.own st, .val (.int n), .emp, .emp, .emp]) := rgLn (by omega) (by simp only [rb_ok, rb_exc, rb_bad, bIf_t, bIf_f, a_int, a_vl, a_e1, a_e2, a_L, a_nil, a_cons, a_tup, a_lst, a_B, asB_b, a_and, a_or, a_not, a_notV, a_andV, a_orV, a_if, a_rg1, a_rg2, asI_i, asS_l, asS_t, a_call, a_callO, a_callSO, a_callSV, a_lenS, a_ixS, a_callR, a_popAt, a_lift, a_lift2, a_seq, sq_nx, sq_rt, sq_ro, sq_bk, sq_ct, a_fl, a_sif, a_ret, a_retO, a_do, a_set, a_setO, a_app, a_setIx, a_for, a_forc, forGo_nil, fg_nx, fg_ct, fg_bk, fg_rt, fg_ro, a_par, par_ok, i_sub, i_add, i_neg, i_abs, i_gt, i_ge, i_lt, i_le, i_eq, i_ne, len_l, len_t, tup_l, i_max, i_min, isi_ok, isis_ok, eNm, eAt, eVar, setV, setO, sv_nil, sv_cons, bd_t, isO, scrAt, appO, startE, startR, startS, List.map_cons, List.map_nil, List.cons_append, List.nil_append, List.replicate_succ, List.replicate_zero, List.length_cons, List.length_nil, List.getElem?_cons_zero, List.getElem?_cons_succ, List.set_cons_zero, List.set_cons_succ, ↓reduceIte, Nat.reduceLT, Nat.reduceAdd, Nat.reduceSub, Nat.lt_add_one, Nat.zero_lt_succ, Nat.succ_lt_succ_iff])
  have k2 := rg0_at (n := n) (by omega) [.own st, .val (.int n), .own (dInts (stillL n)), .own [], .emp] rfl
  have fw : few ([] : List D) = .ok [] := few_ok (by simp)
  refine seq_nx (setO_ok k1 (by simp) rfl) (seq_nx (ρ1 := [.own st, .val (.int n), .own (dInts (stillL n)), .own [], .emp]) (setO_ok (ds := []) (ρ1 := [.own st, .val (.int n), .own (dInts (stillL n)), .emp, .emp]) ?_ (by simp) rfl) (seq_nx (for_ok k2 e) (ret_ok ?_)))
  · show eLst (pure []) [.own st, .val (.int n), .own (dInts (stillL n)), .emp, .emp] = _
    rw [a_lst, a_nil, rb_ok, fw, rb_ok]
  · rw [a_e1]
    simp only [rb_ok, eNm, eAt, List.getElem?_cons_zero, List.getElem?_cons_succ, tup_l]
end LW

set_option Elab.async false
set_option linter.all false
set_option maxRecDepth 100000
set_option maxHeartbeats 4000000
namespace LW
open PySem PySem.Spec PyProof.Rows L2 VS
/-! ### a comprehension that changes the state -/
theorem lcGo_inv {vs : List Nat} {bd : D → M Unit} {me : M D} (I : En → Prop) (P : D → Prop) (step : ∀ d ρ, I ρ → ∃ ρ1 ρ2 y, bd d ρ = .ok ((), ρ1) ∧ me ρ1 = .ok (y, ρ2) ∧ P y ∧ I (wipeE ρ2 vs)) : ∀ (ds : List D) (ρ : En), I ρ → ∃ ys ρ', lcGo vs bd mYes me ds ρ = .ok (ys, ρ') ∧ I ρ' ∧ ys.length = ds.length ∧ ∀ y ∈ ys, P y
  | [], ρ, h => ⟨[], ρ, rfl, h, rfl, fun _ m => nomatch m⟩
  | d :: ds, ρ, h => by
    obtain ⟨ρ1, ρ2, y, e1, e2, py, h2⟩ := step d ρ h
    obtain ⟨ys, ρ', e3, h3, hl, hp⟩ := lcGo_inv I P step ds _ h2
    refine ⟨y :: ys, ρ', ?_, h3, by rw [List.length_cons, List.length_cons, hl], fun z m => ?_⟩
    · show ((bd d >>= fun _ => nx mYes >>= fun b => _) : M (List D)) ρ = _
      rw [bnd, e1, rb_ok, bnd]
      show ((nx me >>= fun y => clr vs >>= fun _ => lcGo vs bd mYes me ds >>= fun ys => pure (y :: ys)) : M (List D)) ρ1 = _
      have e4 : nx me ρ1 = .ok (y, ρ2) := by unfold nx; rw [e2]
      rw [bnd, e4, rb_ok, bnd]
      show (((lcGo vs bd mYes me ds >>= fun ys => pure (y :: ys)) : M (List D)) (wipeE ρ2 vs)) = _
      rw [bnd, e3, rb_ok]; rfl
    · rcases List.mem_cons.mp m with rfl | m
      · exact py
      · exact hp z m
theorem eLc_inv {vs : List Nat} {mi : M (List D)} {bd : D → M Unit} {me : M D} {ρ ρ1 : En} {ds : List D} (I : En → Prop) (P : D → Prop) (step : ∀ d ρ, I ρ → ∃ ρ1 ρ2 y, bd d ρ = .ok ((), ρ1) ∧ me ρ1 = .ok (y, ρ2) ∧ P y ∧ I (wipeE ρ2 vs))
    (h0 : mi ρ = .ok (ds, ρ1)) (hn : noOwn ρ1 vs = true) (hl : ds.length ≤ sizeLine) (hi : I (wipeE ρ1 vs)) : ∃ ys ρ', eLc vs mi bd mYes me ρ = .ok (ys, restE ρ1 ρ' vs) ∧ I ρ' ∧ ys.length = ds.length ∧ ∀ y ∈ ys, P y := by
  obtain ⟨ys, ρ', e, h, hl2, hp⟩ := lcGo_inv I P step ds _ hi
  refine ⟨ys, ρ', ?_, h, hl2, hp⟩
  show (mi ρ).bind (fun p => if noOwn p.2 vs = true ∧ p.1.length ≤ sizeLine then (lcGo vs bd mYes me p.1 (wipeE p.2 vs)).bind fun q => .ok (q.1, restE p.2 q.2 vs) else .bad) = _
  rw [h0, rb_ok]
  show (if noOwn ρ1 vs = true ∧ ds.length ≤ sizeLine then (lcGo vs bd mYes me ds (wipeE ρ1 vs)).bind fun q => .ok (q.1, restE ρ1 q.2 vs) else .bad) = _
  rw [if_pos ⟨hn, hl⟩, e, rb_ok]
/-! ### is it a turning -/
def Small (d : D) : Prop := ∀ ds, d = .tuple ds → ds.length ≤ 64
def isW (e : D) : Bool := isTy "int" e && !isTy "bool" e
theorem iswhole_ok (e : D) : f_is_whole [e] = .ok (.bool (isW e)) := by
  refine a_runBr 1 _ _ (ρ' := [.val e]) ?_
  unfold isW
  cases h : isTy "int" e
  · simp only [m_is_whole, rb_ok, rb_exc, rb_bad, bIf_t, bIf_f, a_int, a_vl, a_e1, a_e2, a_L, a_nil, a_cons, a_tup, a_lst, a_B, asB_b, a_and, a_or, a_not, a_notV, a_andV, a_orV, a_if, a_rg1, a_rg2, asI_i, asS_l, asS_t, a_call, a_callO, a_callSO, a_callSV, a_lenS, a_ixS, a_callR, a_popAt, a_lift, a_lift2, a_seq, sq_nx, sq_rt, sq_ro, sq_bk, sq_ct, a_fl, a_sif, a_ret, a_retO, a_do, a_set, a_setO, a_app, a_setIx, a_for, a_forc, forGo_nil, fg_nx, fg_ct, fg_bk, fg_rt, fg_ro, a_par, par_ok, i_sub, i_add, i_neg, i_abs, i_gt, i_ge, i_lt, i_le, i_eq, i_ne, len_l, len_t, tup_l, i_max, i_min, isi_ok, isis_ok, eNm, eAt, eVar, setV, setO, sv_nil, sv_cons, bd_t, isO, scrAt, appO, startE, startR, startS, List.map_cons, List.map_nil, List.cons_append, List.nil_append, List.replicate_succ, List.replicate_zero, List.length_cons, List.length_nil, List.getElem?_cons_zero, List.getElem?_cons_succ, List.set_cons_zero, List.set_cons_succ, ↓reduceIte, Nat.reduceLT, Nat.reduceAdd, Nat.reduceSub, Nat.lt_add_one, Nat.zero_lt_succ, Nat.succ_lt_succ_iff, h, Bool.false_and]
  · simp only [m_is_whole, rb_ok, rb_exc, rb_bad, bIf_t, bIf_f, a_int, a_vl, a_e1, a_e2, a_L, a_nil, a_cons, a_tup, a_lst, a_B, asB_b, a_and, a_or, a_not, a_notV, a_andV, a_orV, a_if, a_rg1, a_rg2, asI_i, asS_l, asS_t, a_call, a_callO, a_callSO, a_callSV, a_lenS, a_ixS, a_callR, a_popAt, a_lift, a_lift2, a_seq, sq_nx, sq_rt, sq_ro, sq_bk, sq_ct, a_fl, a_sif, a_ret, a_retO, a_do, a_set, a_setO, a_app, a_setIx, a_for, a_forc, forGo_nil, fg_nx, fg_ct, fg_bk, fg_rt, fg_ro, a_par, par_ok, i_sub, i_add, i_neg, i_abs, i_gt, i_ge, i_lt, i_le, i_eq, i_ne, len_l, len_t, tup_l, i_max, i_min, isi_ok, isis_ok, eNm, eAt, eVar, setV, setO, sv_nil, sv_cons, bd_t, isO, scrAt, appO, startE, startR, startS, List.map_cons, List.map_nil, List.cons_append, List.nil_append, List.replicate_succ, List.replicate_zero, List.length_cons, List.length_nil, List.getElem?_cons_zero, List.getElem?_cons_succ, List.set_cons_zero, List.set_cons_succ, ↓reduceIte, Nat.reduceLT, Nat.reduceAdd, Nat.reduceSub, Nat.lt_add_one, Nat.zero_lt_succ, Nat.succ_lt_succ_iff, h, Bool.true_and]
theorem lwhole_ok (e : D) : f__law_whole [e] = .ok (.bool (isW e)) := by
  refine a_runBr 1 _ _ (ρ' := [.val e]) ?_
  unfold isW
  cases h : isTy "int" e
  · simp only [m__law_whole, rb_ok, rb_exc, rb_bad, bIf_t, bIf_f, a_int, a_vl, a_e1, a_e2, a_L, a_nil, a_cons, a_tup, a_lst, a_B, asB_b, a_and, a_or, a_not, a_notV, a_andV, a_orV, a_if, a_rg1, a_rg2, asI_i, asS_l, asS_t, a_call, a_callO, a_callSO, a_callSV, a_lenS, a_ixS, a_callR, a_popAt, a_lift, a_lift2, a_seq, sq_nx, sq_rt, sq_ro, sq_bk, sq_ct, a_fl, a_sif, a_ret, a_retO, a_do, a_set, a_setO, a_app, a_setIx, a_for, a_forc, forGo_nil, fg_nx, fg_ct, fg_bk, fg_rt, fg_ro, a_par, par_ok, i_sub, i_add, i_neg, i_abs, i_gt, i_ge, i_lt, i_le, i_eq, i_ne, len_l, len_t, tup_l, i_max, i_min, isi_ok, isis_ok, eNm, eAt, eVar, setV, setO, sv_nil, sv_cons, bd_t, isO, scrAt, appO, startE, startR, startS, List.map_cons, List.map_nil, List.cons_append, List.nil_append, List.replicate_succ, List.replicate_zero, List.length_cons, List.length_nil, List.getElem?_cons_zero, List.getElem?_cons_succ, List.set_cons_zero, List.set_cons_succ, ↓reduceIte, Nat.reduceLT, Nat.reduceAdd, Nat.reduceSub, Nat.lt_add_one, Nat.zero_lt_succ, Nat.succ_lt_succ_iff, h, Bool.false_and]
  · simp only [m__law_whole, rb_ok, rb_exc, rb_bad, bIf_t, bIf_f, a_int, a_vl, a_e1, a_e2, a_L, a_nil, a_cons, a_tup, a_lst, a_B, asB_b, a_and, a_or, a_not, a_notV, a_andV, a_orV, a_if, a_rg1, a_rg2, asI_i, asS_l, asS_t, a_call, a_callO, a_callSO, a_callSV, a_lenS, a_ixS, a_callR, a_popAt, a_lift, a_lift2, a_seq, sq_nx, sq_rt, sq_ro, sq_bk, sq_ct, a_fl, a_sif, a_ret, a_retO, a_do, a_set, a_setO, a_app, a_setIx, a_for, a_forc, forGo_nil, fg_nx, fg_ct, fg_bk, fg_rt, fg_ro, a_par, par_ok, i_sub, i_add, i_neg, i_abs, i_gt, i_ge, i_lt, i_le, i_eq, i_ne, len_l, len_t, tup_l, i_max, i_min, isi_ok, isis_ok, eNm, eAt, eVar, setV, setO, sv_nil, sv_cons, bd_t, isO, scrAt, appO, startE, startR, startS, List.map_cons, List.map_nil, List.cons_append, List.nil_append, List.replicate_succ, List.replicate_zero, List.length_cons, List.length_nil, List.getElem?_cons_zero, List.getElem?_cons_succ, List.set_cons_zero, List.set_cons_succ, ↓reduceIte, Nat.reduceLT, Nat.reduceAdd, Nat.reduceSub, Nat.lt_add_one, Nat.zero_lt_succ, Nat.succ_lt_succ_iff, h, Bool.true_and]
theorem all_whole : ∀ {ds : List D}, ds.all isW = true → ∃ ts : List Int, ds = dInts ts
  | [], _ => ⟨[], rfl⟩
  | e :: ds, h => by
    rw [List.all_cons, Bool.and_eq_true] at h
    obtain ⟨ts, rfl⟩ := all_whole h.2
    have he := h.1
    cases e with
    | int i => exact ⟨i :: ts, rfl⟩
    | none => cases he
    | bool b => cases he
    | str s => cases he
    | list l => cases he
    | tuple l => cases he
    | dict l => cases he
theorem le64 {n : Nat} (h : n ≤ 64) : n ≤ sizeLine := Nat.le_trans h (by rw [sizeLine_eq]; decide)
theorem whole_lc {n : D} {ds : List D} (f : List D → Res D) (hf : ∀ e, f [e] = .ok (.bool (isW e))) (hl : ds.length ≤ 64) :
    (eL (eLc [2] ((eVar 1) >>= fun d => M.lift (asS d)) (setV 2) mYes (eCall f (eCons (eVar 2) (pure []))))) [.val n, .val (.tuple ds), .emp] = .ok (.list ((ds.map isW).map .bool), [.val n, .val (.tuple ds), .emp]) := by
  have key := eLc_map (vs := [2]) (mi := (eVar 1) >>= fun d => M.lift (asS d)) (bd := setV 2) (me := eCall f (eCons (eVar 2) (pure []))) (ρ := [.val n, .val (.tuple ds), .emp]) (ρ1 := [.val n, .val (.tuple ds), .emp]) (ds := ds) (fun e => .bool (isW e)) (by simp only [rb_ok, rb_exc, rb_bad, bIf_t, bIf_f, a_int, a_vl, a_e1, a_e2, a_L, a_nil, a_cons, a_tup, a_lst, a_B, asB_b, a_and, a_or, a_not, a_notV, a_andV, a_orV, a_if, a_rg1, a_rg2, asI_i, asS_l, asS_t, a_call, a_callO, a_callSO, a_callSV, a_lenS, a_ixS, a_callR, a_popAt, a_lift, a_lift2, a_seq, sq_nx, sq_rt, sq_ro, sq_bk, sq_ct, a_fl, a_sif, a_ret, a_retO, a_do, a_set, a_setO, a_app, a_setIx, a_for, a_forc, forGo_nil, fg_nx, fg_ct, fg_bk, fg_rt, fg_ro, a_par, par_ok, i_sub, i_add, i_neg, i_abs, i_gt, i_ge, i_lt, i_le, i_eq, i_ne, len_l, len_t, tup_l, i_max, i_min, isi_ok, isis_ok, eNm, eAt, eVar, setV, setO, sv_nil, sv_cons, bd_t, isO, scrAt, appO, startE, startR, startS, List.map_cons, List.map_nil, List.cons_append, List.nil_append, List.replicate_succ, List.replicate_zero, List.length_cons, List.length_nil, List.getElem?_cons_zero, List.getElem?_cons_succ, List.set_cons_zero, List.set_cons_succ, ↓reduceIte, Nat.reduceLT, Nat.reduceAdd, Nat.reduceSub, Nat.lt_add_one, Nat.zero_lt_succ, Nat.succ_lt_succ_iff]) (by rfl) (le64 hl) (fun d hd => ⟨[.val n, .val (.tuple ds), .val d], [.val n, .val (.tuple ds), .val d], rfl, by simp only [rb_ok, rb_exc, rb_bad, bIf_t, bIf_f, a_int, a_vl, a_e1, a_e2, a_L, a_nil, a_cons, a_tup, a_lst, a_B, asB_b, a_and, a_or, a_not, a_notV, a_andV, a_orV, a_if, a_rg1, a_rg2, asI_i, asS_l, asS_t, a_call, a_callO, a_callSO, a_callSV, a_lenS, a_ixS, a_callR, a_popAt, a_lift, a_lift2, a_seq, sq_nx, sq_rt, sq_ro, sq_bk, sq_ct, a_fl, a_sif, a_ret, a_retO, a_do, a_set, a_setO, a_app, a_setIx, a_for, a_forc, forGo_nil, fg_nx, fg_ct, fg_bk, fg_rt, fg_ro, a_par, par_ok, i_sub, i_add, i_neg, i_abs, i_gt, i_ge, i_lt, i_le, i_eq, i_ne, len_l, len_t, tup_l, i_max, i_min, isi_ok, isis_ok, eNm, eAt, eVar, setV, setO, sv_nil, sv_cons, bd_t, isO, scrAt, appO, startE, startR, startS, List.map_cons, List.map_nil, List.cons_append, List.nil_append, List.replicate_succ, List.replicate_zero, List.length_cons, List.length_nil, List.getElem?_cons_zero, List.getElem?_cons_succ, List.set_cons_zero, List.set_cons_succ, ↓reduceIte, Nat.reduceLT, Nat.reduceAdd, Nat.reduceSub, Nat.lt_add_one, Nat.zero_lt_succ, Nat.succ_lt_succ_iff, hf], rfl⟩)
  rw [a_L, key, rb_ok, List.map_map]
  rfl
def absL (ts : List Int) : List Int := ts.map fun i => if i < 0 then -i else i
theorem gSorted_ints (ts : List Int) : gSorted (.list (dInts ts)) = .ok (dInts (sortI ts)) := by
  show (match intsOf (dInts ts) with
    | some ns => Res.ok ((sortI ns).map PyData.int)
    | none => _) = _
  rw [intsOf_map]
theorem abs_sort {n : D} {ts : List Int} (hl : ts.length ≤ 64) :
    (eL (e1 gSorted (eVl (eL (eLc [2] ((eVar 1) >>= fun d => M.lift (asS d)) (setV 2) mYes (e1 gAbs (eNm 2))))))) [.val n, .val (dTup ts), .emp] = .ok (.list (dInts (sortI (absL ts))), [.val n, .val (dTup ts), .emp]) := by
  have key := eLc_map (vs := [2]) (mi := (eVar 1) >>= fun d => M.lift (asS d)) (bd := setV 2) (me := e1 gAbs (eNm 2)) (ρ := [.val n, .val (dTup ts), .emp]) (ρ1 := [.val n, .val (dTup ts), .emp]) (ds := dInts ts) (fun e => match e with | .int i => .int (if i < 0 then -i else i) | e => e) (by simp only [rb_ok, rb_exc, rb_bad, bIf_t, bIf_f, a_int, a_vl, a_e1, a_e2, a_L, a_nil, a_cons, a_tup, a_lst, a_B, asB_b, a_and, a_or, a_not, a_notV, a_andV, a_orV, a_if, a_rg1, a_rg2, asI_i, asS_l, asS_t, a_call, a_callO, a_callSO, a_callSV, a_lenS, a_ixS, a_callR, a_popAt, a_lift, a_lift2, a_seq, sq_nx, sq_rt, sq_ro, sq_bk, sq_ct, a_fl, a_sif, a_ret, a_retO, a_do, a_set, a_setO, a_app, a_setIx, a_for, a_forc, forGo_nil, fg_nx, fg_ct, fg_bk, fg_rt, fg_ro, a_par, par_ok, i_sub, i_add, i_neg, i_abs, i_gt, i_ge, i_lt, i_le, i_eq, i_ne, len_l, len_t, tup_l, i_max, i_min, isi_ok, isis_ok, eNm, eAt, eVar, setV, setO, sv_nil, sv_cons, bd_t, isO, scrAt, appO, startE, startR, startS, List.map_cons, List.map_nil, List.cons_append, List.nil_append, List.replicate_succ, List.replicate_zero, List.length_cons, List.length_nil, List.getElem?_cons_zero, List.getElem?_cons_succ, List.set_cons_zero, List.set_cons_succ, ↓reduceIte, Nat.reduceLT, Nat.reduceAdd, Nat.reduceSub, Nat.lt_add_one, Nat.zero_lt_succ, Nat.succ_lt_succ_iff]) (by rfl) (le64 (by rw [List.length_map]; exact hl)) (fun d hd => by
    obtain ⟨i, _, rfl⟩ := List.mem_map.mp hd
    exact ⟨[.val n, .val (dTup ts), .val (.int i)], [.val n, .val (dTup ts), .val (.int i)], rfl, by simp only [rb_ok, rb_exc, rb_bad, bIf_t, bIf_f, a_int, a_vl, a_e1, a_e2, a_L, a_nil, a_cons, a_tup, a_lst, a_B, asB_b, a_and, a_or, a_not, a_notV, a_andV, a_orV, a_if, a_rg1, a_rg2, asI_i, asS_l, asS_t, a_call, a_callO, a_callSO, a_callSV, a_lenS, a_ixS, a_callR, a_popAt, a_lift, a_lift2, a_seq, sq_nx, sq_rt, sq_ro, sq_bk, sq_ct, a_fl, a_sif, a_ret, a_retO, a_do, a_set, a_setO, a_app, a_setIx, a_for, a_forc, forGo_nil, fg_nx, fg_ct, fg_bk, fg_rt, fg_ro, a_par, par_ok, i_sub, i_add, i_neg, i_abs, i_gt, i_ge, i_lt, i_le, i_eq, i_ne, len_l, len_t, tup_l, i_max, i_min, isi_ok, isis_ok, eNm, eAt, eVar, setV, setO, sv_nil, sv_cons, bd_t, isO, scrAt, appO, startE, startR, startS, List.map_cons, List.map_nil, List.cons_append, List.nil_append, List.replicate_succ, List.replicate_zero, List.length_cons, List.length_nil, List.getElem?_cons_zero, List.getElem?_cons_succ, List.set_cons_zero, List.set_cons_succ, ↓reduceIte, Nat.reduceLT, Nat.reduceAdd, Nat.reduceSub, Nat.lt_add_one, Nat.zero_lt_succ, Nat.succ_lt_succ_iff], rfl⟩)
  have e6 : (dInts ts).map (fun e : D => match e with | .int i => PyData.int (if i < 0 then -i else i) | e => e) = dInts (absL ts) := by
    unfold dInts absL
    rw [List.map_map, List.map_map]
    rfl
  rw [e6] at key
  rw [a_L, a_e1, a_vl, a_L, key]
  simp only [rb_ok, a_int, gSorted_ints]
  rfl
theorem eq_lists (a b : List Int) : dEq (.list (dInts a)) (.list (dInts b)) = .ok (.bool (decide (a = b))) := by
  unfold dEq
  rw [if_pos (by rw [PySem.W.shaped_ints, PySem.W.shaped_ints]; rfl)]
  show Res.ok (PyData.bool (PyData.eqvAll (dInts a) (dInts b))) = _
  rw [eqv_ints]
theorem isi_tup (ds : List D) : isTy "tuple" (.tuple ds) = true := rfl
theorem sortI_len (ts : List Int) : (sortI ts).length = ts.length := (sortI_perm ts).length_eq
theorem ist_ok {n : Nat} {d : D} (hn : n ≤ 64) (hd : Small d) : ∃ b, f_is_turning [.int n, d] = .ok (.bool b) ∧ f__law_is_turning [.int n, d] = .ok (.bool b) := by
  by_cases ht : ∃ ds, d = .tuple ds
  · obtain ⟨ds, rfl⟩ := ht
    have hl := hd ds rfl
    have k1 := whole_lc (n := .int n) (ds := ds) f_is_whole iswhole_ok hl
    have k2 := whole_lc (n := .int n) (ds := ds) f__law_whole lwhole_ok hl
    have rg : ((eRg2 (eVl (pure (.int 1))) (eVl (e2 dAddL (eNm 0) (eVl (pure (.int 1)))))) >>= fun p => M.lift (gRgL p)) [.val (.int n), .val (.tuple ds), .emp] = .ok (dInts (stillL n), [.val (.int n), .val (.tuple ds), .emp]) := rgLn hn (by simp only [rb_ok, rb_exc, rb_bad, bIf_t, bIf_f, a_int, a_vl, a_e1, a_e2, a_L, a_nil, a_cons, a_tup, a_lst, a_B, asB_b, a_and, a_or, a_not, a_notV, a_andV, a_orV, a_if, a_rg1, a_rg2, asI_i, asS_l, asS_t, a_call, a_callO, a_callSO, a_callSV, a_lenS, a_ixS, a_callR, a_popAt, a_lift, a_lift2, a_seq, sq_nx, sq_rt, sq_ro, sq_bk, sq_ct, a_fl, a_sif, a_ret, a_retO, a_do, a_set, a_setO, a_app, a_setIx, a_for, a_forc, forGo_nil, fg_nx, fg_ct, fg_bk, fg_rt, fg_ro, a_par, par_ok, i_sub, i_add, i_neg, i_abs, i_gt, i_ge, i_lt, i_le, i_eq, i_ne, len_l, len_t, tup_l, i_max, i_min, isi_ok, isis_ok, eNm, eAt, eVar, setV, setO, sv_nil, sv_cons, bd_t, isO, scrAt, appO, startE, startR, startS, List.map_cons, List.map_nil, List.cons_append, List.nil_append, List.replicate_succ, List.replicate_zero, List.length_cons, List.length_nil, List.getElem?_cons_zero, List.getElem?_cons_succ, List.set_cons_zero, List.set_cons_succ, ↓reduceIte, Nat.reduceLT, Nat.reduceAdd, Nat.reduceSub, Nat.lt_add_one, Nat.zero_lt_succ, Nat.succ_lt_succ_iff])
    have g1 := bools_map (fun bs => bs.all id) (ds.map isW)
    have g2 : ((ds.map isW).all id) = ds.all isW := by rw [List.all_map]; rfl
    rw [g2] at g1
    have len0 : f_is_turning [.int n, .tuple ds] = runB 3 m_is_turning [.int n, .tuple ds] := rfl
    cases hw : ds.all isW
    · rw [hw] at g1
      refine ⟨false, a_runBr 3 _ _ (ρ' := [.val (.int n), .val (.tuple ds), .emp]) ?_, a_runBr 3 _ _ (ρ' := [.val (.int n), .val (.tuple ds), .emp]) ?_⟩
      · show m_is_turning [.val (.int n), .val (.tuple ds), .emp] = _
        unfold m_is_turning
        refine seq_rt (if_t (ρ1 := [.val (.int n), .val (.tuple ds), .emp]) ?_ rfl)
        refine or_f (ρ1 := [.val (.int n), .val (.tuple ds), .emp]) (by simp only [rb_ok, rb_exc, rb_bad, bIf_t, bIf_f, a_int, a_vl, a_e1, a_e2, a_L, a_nil, a_cons, a_tup, a_lst, a_B, asB_b, a_and, a_or, a_not, a_notV, a_andV, a_orV, a_if, a_rg1, a_rg2, asI_i, asS_l, asS_t, a_call, a_callO, a_callSO, a_callSV, a_lenS, a_ixS, a_callR, a_popAt, a_lift, a_lift2, a_seq, sq_nx, sq_rt, sq_ro, sq_bk, sq_ct, a_fl, a_sif, a_ret, a_retO, a_do, a_set, a_setO, a_app, a_setIx, a_for, a_forc, forGo_nil, fg_nx, fg_ct, fg_bk, fg_rt, fg_ro, a_par, par_ok, i_sub, i_add, i_neg, i_abs, i_gt, i_ge, i_lt, i_le, i_eq, i_ne, len_l, len_t, tup_l, i_max, i_min, isi_ok, isis_ok, eNm, eAt, eVar, setV, setO, sv_nil, sv_cons, bd_t, isO, scrAt, appO, startE, startR, startS, List.map_cons, List.map_nil, List.cons_append, List.nil_append, List.replicate_succ, List.replicate_zero, List.length_cons, List.length_nil, List.getElem?_cons_zero, List.getElem?_cons_succ, List.set_cons_zero, List.set_cons_succ, ↓reduceIte, Nat.reduceLT, Nat.reduceAdd, Nat.reduceSub, Nat.lt_add_one, Nat.zero_lt_succ, Nat.succ_lt_succ_iff, isi_tup, Bool.not_true]) ?_
        by_cases hq : (ds.length : Int) = n
        · refine or_f (ρ1 := [.val (.int n), .val (.tuple ds), .emp]) (by simp only [rb_ok, rb_exc, rb_bad, bIf_t, bIf_f, a_int, a_vl, a_e1, a_e2, a_L, a_nil, a_cons, a_tup, a_lst, a_B, asB_b, a_and, a_or, a_not, a_notV, a_andV, a_orV, a_if, a_rg1, a_rg2, asI_i, asS_l, asS_t, a_call, a_callO, a_callSO, a_callSV, a_lenS, a_ixS, a_callR, a_popAt, a_lift, a_lift2, a_seq, sq_nx, sq_rt, sq_ro, sq_bk, sq_ct, a_fl, a_sif, a_ret, a_retO, a_do, a_set, a_setO, a_app, a_setIx, a_for, a_forc, forGo_nil, fg_nx, fg_ct, fg_bk, fg_rt, fg_ro, a_par, par_ok, i_sub, i_add, i_neg, i_abs, i_gt, i_ge, i_lt, i_le, i_eq, i_ne, len_l, len_t, tup_l, i_max, i_min, isi_ok, isis_ok, eNm, eAt, eVar, setV, setO, sv_nil, sv_cons, bd_t, isO, scrAt, appO, startE, startR, startS, List.map_cons, List.map_nil, List.cons_append, List.nil_append, List.replicate_succ, List.replicate_zero, List.length_cons, List.length_nil, List.getElem?_cons_zero, List.getElem?_cons_succ, List.set_cons_zero, List.set_cons_succ, ↓reduceIte, Nat.reduceLT, Nat.reduceAdd, Nat.reduceSub, Nat.lt_add_one, Nat.zero_lt_succ, Nat.succ_lt_succ_iff, hq, decide_true, Bool.not_true]) ?_
          rw [a_not, a_B, a_e1, a_vl, k1]
          simp only [rb_ok, a_int, g1, asB_b, Bool.not_false]
        · rw [a_or, a_B, a_e2]
          simp only [rb_ok, rb_exc, rb_bad, bIf_t, bIf_f, a_int, a_vl, a_e1, a_e2, a_L, a_nil, a_cons, a_tup, a_lst, a_B, asB_b, a_and, a_or, a_not, a_notV, a_andV, a_orV, a_if, a_rg1, a_rg2, asI_i, asS_l, asS_t, a_call, a_callO, a_callSO, a_callSV, a_lenS, a_ixS, a_callR, a_popAt, a_lift, a_lift2, a_seq, sq_nx, sq_rt, sq_ro, sq_bk, sq_ct, a_fl, a_sif, a_ret, a_retO, a_do, a_set, a_setO, a_app, a_setIx, a_for, a_forc, forGo_nil, fg_nx, fg_ct, fg_bk, fg_rt, fg_ro, a_par, par_ok, i_sub, i_add, i_neg, i_abs, i_gt, i_ge, i_lt, i_le, i_eq, i_ne, len_l, len_t, tup_l, i_max, i_min, isi_ok, isis_ok, eNm, eAt, eVar, setV, setO, sv_nil, sv_cons, bd_t, isO, scrAt, appO, startE, startR, startS, List.map_cons, List.map_nil, List.cons_append, List.nil_append, List.replicate_succ, List.replicate_zero, List.length_cons, List.length_nil, List.getElem?_cons_zero, List.getElem?_cons_succ, List.set_cons_zero, List.set_cons_succ, ↓reduceIte, Nat.reduceLT, Nat.reduceAdd, Nat.reduceSub, Nat.lt_add_one, Nat.zero_lt_succ, Nat.succ_lt_succ_iff, hq, decide_false, Bool.not_false]
      · show m__law_is_turning [.val (.int n), .val (.tuple ds), .emp] = _
        unfold m__law_is_turning
        refine seq_rt (if_t (ρ1 := [.val (.int n), .val (.tuple ds), .emp]) ?_ rfl)
        refine or_f (ρ1 := [.val (.int n), .val (.tuple ds), .emp]) (by simp only [rb_ok, rb_exc, rb_bad, bIf_t, bIf_f, a_int, a_vl, a_e1, a_e2, a_L, a_nil, a_cons, a_tup, a_lst, a_B, asB_b, a_and, a_or, a_not, a_notV, a_andV, a_orV, a_if, a_rg1, a_rg2, asI_i, asS_l, asS_t, a_call, a_callO, a_callSO, a_callSV, a_lenS, a_ixS, a_callR, a_popAt, a_lift, a_lift2, a_seq, sq_nx, sq_rt, sq_ro, sq_bk, sq_ct, a_fl, a_sif, a_ret, a_retO, a_do, a_set, a_setO, a_app, a_setIx, a_for, a_forc, forGo_nil, fg_nx, fg_ct, fg_bk, fg_rt, fg_ro, a_par, par_ok, i_sub, i_add, i_neg, i_abs, i_gt, i_ge, i_lt, i_le, i_eq, i_ne, len_l, len_t, tup_l, i_max, i_min, isi_ok, isis_ok, eNm, eAt, eVar, setV, setO, sv_nil, sv_cons, bd_t, isO, scrAt, appO, startE, startR, startS, List.map_cons, List.map_nil, List.cons_append, List.nil_append, List.replicate_succ, List.replicate_zero, List.length_cons, List.length_nil, List.getElem?_cons_zero, List.getElem?_cons_succ, List.set_cons_zero, List.set_cons_succ, ↓reduceIte, Nat.reduceLT, Nat.reduceAdd, Nat.reduceSub, Nat.lt_add_one, Nat.zero_lt_succ, Nat.succ_lt_succ_iff, isi_tup, Bool.not_true]) ?_
        rw [a_not, a_B, a_e1, a_vl, k2]
        simp only [rb_ok, a_int, g1, asB_b, Bool.not_false]
    · rw [hw] at g1
      obtain ⟨ts, rfl⟩ := all_whole hw
      have hl2 : ts.length ≤ 64 := by rw [List.length_map] at hl; exact hl
      have as := abs_sort (n := .int n) hl2
      have fin : (sRet (e2 dEq (eVl (eL (e1 gSorted (eVl (eL (eLc [2] ((eVar 1) >>= fun d => M.lift (asS d)) (setV 2) mYes (e1 gAbs (eNm 2)))))))) (eVl (eL ((eRg2 (eVl (pure (.int 1))) (eVl (e2 dAddL (eNm 0) (eVl (pure (.int 1)))))) >>= fun p => M.lift (gRgL p)))))) [.val (.int n), .val (dTup ts), .emp] = .ok (.rt (.bool (decide (sortI (absL ts) = stillL n))), [.val (.int n), .val (dTup ts), .emp]) := by
        refine ret_ok ?_
        rw [a_e2, a_vl, as, rb_ok, rb_ok, a_vl, a_L, rg]
        simp only [rb_ok, a_int, eq_lists]
      have law : f__law_is_turning [.int n, dTup ts] = .ok (.bool (decide (sortI (absL ts) = stillL n))) := by
        refine a_runBr 3 _ _ (ρ' := [.val (.int n), .val (dTup ts), .emp]) ?_
        show m__law_is_turning [.val (.int n), .val (dTup ts), .emp] = _
        unfold m__law_is_turning
        refine seq_nx (if_f (ρ1 := [.val (.int n), .val (dTup ts), .emp]) (or_f (ρ1 := [.val (.int n), .val (dTup ts), .emp]) (by simp only [rb_ok, rb_exc, rb_bad, bIf_t, bIf_f, a_int, a_vl, a_e1, a_e2, a_L, a_nil, a_cons, a_tup, a_lst, a_B, asB_b, a_and, a_or, a_not, a_notV, a_andV, a_orV, a_if, a_rg1, a_rg2, asI_i, asS_l, asS_t, a_call, a_callO, a_callSO, a_callSV, a_lenS, a_ixS, a_callR, a_popAt, a_lift, a_lift2, a_seq, sq_nx, sq_rt, sq_ro, sq_bk, sq_ct, a_fl, a_sif, a_ret, a_retO, a_do, a_set, a_setO, a_app, a_setIx, a_for, a_forc, forGo_nil, fg_nx, fg_ct, fg_bk, fg_rt, fg_ro, a_par, par_ok, i_sub, i_add, i_neg, i_abs, i_gt, i_ge, i_lt, i_le, i_eq, i_ne, len_l, len_t, tup_l, i_max, i_min, isi_ok, isis_ok, eNm, eAt, eVar, setV, setO, sv_nil, sv_cons, bd_t, isO, scrAt, appO, startE, startR, startS, List.map_cons, List.map_nil, List.cons_append, List.nil_append, List.replicate_succ, List.replicate_zero, List.length_cons, List.length_nil, List.getElem?_cons_zero, List.getElem?_cons_succ, List.set_cons_zero, List.set_cons_succ, ↓reduceIte, Nat.reduceLT, Nat.reduceAdd, Nat.reduceSub, Nat.lt_add_one, Nat.zero_lt_succ, Nat.succ_lt_succ_iff, isi_tup, Bool.not_true]) ?_) rfl) fin
        rw [a_not, a_B, a_e1, a_vl, k2]
        simp only [rb_ok, a_int, g1, asB_b, Bool.not_true]
      refine ⟨_, ?_, law⟩
      refine a_runBr 3 _ _ (ρ' := [.val (.int n), .val (dTup ts), .emp]) ?_
      show m_is_turning [.val (.int n), .val (dTup ts), .emp] = _
      unfold m_is_turning
      have hlen : (dInts ts).length = ts.length := List.length_map ..
      by_cases hq : (ts.length : Int) = n
      · refine seq_nx (if_f (ρ1 := [.val (.int n), .val (dTup ts), .emp]) (or_f (ρ1 := [.val (.int n), .val (dTup ts), .emp]) (by simp only [rb_ok, rb_exc, rb_bad, bIf_t, bIf_f, a_int, a_vl, a_e1, a_e2, a_L, a_nil, a_cons, a_tup, a_lst, a_B, asB_b, a_and, a_or, a_not, a_notV, a_andV, a_orV, a_if, a_rg1, a_rg2, asI_i, asS_l, asS_t, a_call, a_callO, a_callSO, a_callSV, a_lenS, a_ixS, a_callR, a_popAt, a_lift, a_lift2, a_seq, sq_nx, sq_rt, sq_ro, sq_bk, sq_ct, a_fl, a_sif, a_ret, a_retO, a_do, a_set, a_setO, a_app, a_setIx, a_for, a_forc, forGo_nil, fg_nx, fg_ct, fg_bk, fg_rt, fg_ro, a_par, par_ok, i_sub, i_add, i_neg, i_abs, i_gt, i_ge, i_lt, i_le, i_eq, i_ne, len_l, len_t, tup_l, i_max, i_min, isi_ok, isis_ok, eNm, eAt, eVar, setV, setO, sv_nil, sv_cons, bd_t, isO, scrAt, appO, startE, startR, startS, List.map_cons, List.map_nil, List.cons_append, List.nil_append, List.replicate_succ, List.replicate_zero, List.length_cons, List.length_nil, List.getElem?_cons_zero, List.getElem?_cons_succ, List.set_cons_zero, List.set_cons_succ, ↓reduceIte, Nat.reduceLT, Nat.reduceAdd, Nat.reduceSub, Nat.lt_add_one, Nat.zero_lt_succ, Nat.succ_lt_succ_iff, isi_tup, Bool.not_true]) (or_f (ρ1 := [.val (.int n), .val (dTup ts), .emp]) (by simp only [rb_ok, rb_exc, rb_bad, bIf_t, bIf_f, a_int, a_vl, a_e1, a_e2, a_L, a_nil, a_cons, a_tup, a_lst, a_B, asB_b, a_and, a_or, a_not, a_notV, a_andV, a_orV, a_if, a_rg1, a_rg2, asI_i, asS_l, asS_t, a_call, a_callO, a_callSO, a_callSV, a_lenS, a_ixS, a_callR, a_popAt, a_lift, a_lift2, a_seq, sq_nx, sq_rt, sq_ro, sq_bk, sq_ct, a_fl, a_sif, a_ret, a_retO, a_do, a_set, a_setO, a_app, a_setIx, a_for, a_forc, forGo_nil, fg_nx, fg_ct, fg_bk, fg_rt, fg_ro, a_par, par_ok, i_sub, i_add, i_neg, i_abs, i_gt, i_ge, i_lt, i_le, i_eq, i_ne, len_l, len_t, tup_l, i_max, i_min, isi_ok, isis_ok, eNm, eAt, eVar, setV, setO, sv_nil, sv_cons, bd_t, isO, scrAt, appO, startE, startR, startS, List.map_cons, List.map_nil, List.cons_append, List.nil_append, List.replicate_succ, List.replicate_zero, List.length_cons, List.length_nil, List.getElem?_cons_zero, List.getElem?_cons_succ, List.set_cons_zero, List.set_cons_succ, ↓reduceIte, Nat.reduceLT, Nat.reduceAdd, Nat.reduceSub, Nat.lt_add_one, Nat.zero_lt_succ, Nat.succ_lt_succ_iff, hlen, hq, decide_true, Bool.not_true]) ?_)) rfl) fin
        rw [a_not, a_B, a_e1, a_vl, k1]
        simp only [rb_ok, a_int, g1, asB_b, Bool.not_true]
      · have hne : decide (sortI (absL ts) = stillL n) = false := by
          refine decide_eq_false fun h => hq ?_
          have := congrArg List.length h
          rw [sortI_len, still_len] at this
          unfold absL at this
          rw [List.length_map] at this
          omega
        rw [hne]
        refine seq_rt (if_t (ρ1 := [.val (.int n), .val (dTup ts), .emp]) (or_f (ρ1 := [.val (.int n), .val (dTup ts), .emp]) (by simp only [rb_ok, rb_exc, rb_bad, bIf_t, bIf_f, a_int, a_vl, a_e1, a_e2, a_L, a_nil, a_cons, a_tup, a_lst, a_B, asB_b, a_and, a_or, a_not, a_notV, a_andV, a_orV, a_if, a_rg1, a_rg2, asI_i, asS_l, asS_t, a_call, a_callO, a_callSO, a_callSV, a_lenS, a_ixS, a_callR, a_popAt, a_lift, a_lift2, a_seq, sq_nx, sq_rt, sq_ro, sq_bk, sq_ct, a_fl, a_sif, a_ret, a_retO, a_do, a_set, a_setO, a_app, a_setIx, a_for, a_forc, forGo_nil, fg_nx, fg_ct, fg_bk, fg_rt, fg_ro, a_par, par_ok, i_sub, i_add, i_neg, i_abs, i_gt, i_ge, i_lt, i_le, i_eq, i_ne, len_l, len_t, tup_l, i_max, i_min, isi_ok, isis_ok, eNm, eAt, eVar, setV, setO, sv_nil, sv_cons, bd_t, isO, scrAt, appO, startE, startR, startS, List.map_cons, List.map_nil, List.cons_append, List.nil_append, List.replicate_succ, List.replicate_zero, List.length_cons, List.length_nil, List.getElem?_cons_zero, List.getElem?_cons_succ, List.set_cons_zero, List.set_cons_succ, ↓reduceIte, Nat.reduceLT, Nat.reduceAdd, Nat.reduceSub, Nat.lt_add_one, Nat.zero_lt_succ, Nat.succ_lt_succ_iff, isi_tup, Bool.not_true]) ?_) rfl)
        rw [a_or, a_B, a_e2]
        simp only [rb_ok, rb_exc, rb_bad, bIf_t, bIf_f, a_int, a_vl, a_e1, a_e2, a_L, a_nil, a_cons, a_tup, a_lst, a_B, asB_b, a_and, a_or, a_not, a_notV, a_andV, a_orV, a_if, a_rg1, a_rg2, asI_i, asS_l, asS_t, a_call, a_callO, a_callSO, a_callSV, a_lenS, a_ixS, a_callR, a_popAt, a_lift, a_lift2, a_seq, sq_nx, sq_rt, sq_ro, sq_bk, sq_ct, a_fl, a_sif, a_ret, a_retO, a_do, a_set, a_setO, a_app, a_setIx, a_for, a_forc, forGo_nil, fg_nx, fg_ct, fg_bk, fg_rt, fg_ro, a_par, par_ok, i_sub, i_add, i_neg, i_abs, i_gt, i_ge, i_lt, i_le, i_eq, i_ne, len_l, len_t, tup_l, i_max, i_min, isi_ok, isis_ok, eNm, eAt, eVar, setV, setO, sv_nil, sv_cons, bd_t, isO, scrAt, appO, startE, startR, startS, List.map_cons, List.map_nil, List.cons_append, List.nil_append, List.replicate_succ, List.replicate_zero, List.length_cons, List.length_nil, List.getElem?_cons_zero, List.getElem?_cons_succ, List.set_cons_zero, List.set_cons_succ, ↓reduceIte, Nat.reduceLT, Nat.reduceAdd, Nat.reduceSub, Nat.lt_add_one, Nat.zero_lt_succ, Nat.succ_lt_succ_iff, hlen, hq, decide_false, Bool.not_false]
  · have h : isTy "tuple" d = false := by
      cases d with
      | tuple ds => exact (ht ⟨ds, rfl⟩).elim
      | none => rfl
      | bool b => rfl
      | int b => rfl
      | str b => rfl
      | list b => rfl
      | dict b => rfl
    refine ⟨false, a_runBr 3 _ _ (ρ' := [.val (.int n), .val d, .emp]) ?_, a_runBr 3 _ _ (ρ' := [.val (.int n), .val d, .emp]) ?_⟩
    · simp only [m_is_turning, rb_ok, rb_exc, rb_bad, bIf_t, bIf_f, a_int, a_vl, a_e1, a_e2, a_L, a_nil, a_cons, a_tup, a_lst, a_B, asB_b, a_and, a_or, a_not, a_notV, a_andV, a_orV, a_if, a_rg1, a_rg2, asI_i, asS_l, asS_t, a_call, a_callO, a_callSO, a_callSV, a_lenS, a_ixS, a_callR, a_popAt, a_lift, a_lift2, a_seq, sq_nx, sq_rt, sq_ro, sq_bk, sq_ct, a_fl, a_sif, a_ret, a_retO, a_do, a_set, a_setO, a_app, a_setIx, a_for, a_forc, forGo_nil, fg_nx, fg_ct, fg_bk, fg_rt, fg_ro, a_par, par_ok, i_sub, i_add, i_neg, i_abs, i_gt, i_ge, i_lt, i_le, i_eq, i_ne, len_l, len_t, tup_l, i_max, i_min, isi_ok, isis_ok, eNm, eAt, eVar, setV, setO, sv_nil, sv_cons, bd_t, isO, scrAt, appO, startE, startR, startS, List.map_cons, List.map_nil, List.cons_append, List.nil_append, List.replicate_succ, List.replicate_zero, List.length_cons, List.length_nil, List.getElem?_cons_zero, List.getElem?_cons_succ, List.set_cons_zero, List.set_cons_succ, ↓reduceIte, Nat.reduceLT, Nat.reduceAdd, Nat.reduceSub, Nat.lt_add_one, Nat.zero_lt_succ, Nat.succ_lt_succ_iff, h, Bool.not_false]
    · simp only [m__law_is_turning, rb_ok, rb_exc, rb_bad, bIf_t, bIf_f, a_int, a_vl, a_e1, a_e2, a_L, a_nil, a_cons, a_tup, a_lst, a_B, asB_b, a_and, a_or, a_not, a_notV, a_andV, a_orV, a_if, a_rg1, a_rg2, asI_i, asS_l, asS_t, a_call, a_callO, a_callSO, a_callSV, a_lenS, a_ixS, a_callR, a_popAt, a_lift, a_lift2, a_seq, sq_nx, sq_rt, sq_ro, sq_bk, sq_ct, a_fl, a_sif, a_ret, a_retO, a_do, a_set, a_setO, a_app, a_setIx, a_for, a_forc, forGo_nil, fg_nx, fg_ct, fg_bk, fg_rt, fg_ro, a_par, par_ok, i_sub, i_add, i_neg, i_abs, i_gt, i_ge, i_lt, i_le, i_eq, i_ne, len_l, len_t, tup_l, i_max, i_min, isi_ok, isis_ok, eNm, eAt, eVar, setV, setO, sv_nil, sv_cons, bd_t, isO, scrAt, appO, startE, startR, startS, List.map_cons, List.map_nil, List.cons_append, List.nil_append, List.replicate_succ, List.replicate_zero, List.length_cons, List.length_nil, List.getElem?_cons_zero, List.getElem?_cons_succ, List.set_cons_zero, List.set_cons_succ, ↓reduceIte, Nat.reduceLT, Nat.reduceAdd, Nat.reduceSub, Nat.lt_add_one, Nat.zero_lt_succ, Nat.succ_lt_succ_iff, h, Bool.not_false]
end LW

set_option Elab.async false
set_option linter.all false
set_option maxRecDepth 100000
set_option maxHeartbeats 4000000
namespace LW
open PySem PySem.Spec PyProof.Rows L2 VS
theorem a_sl {α : Type} (g : D → Option Int → Option Int → Res α) (ma : M (M D)) (ml mh : M (Option Int)) (ρ : En) : eSl g ma ml mh ρ = (ma ρ).bind fun p => (ml p.2).bind fun q => (mh q.2).bind fun r => (p.1 r.2).bind fun s => (g s.1 q.1 r.1).bind fun a => .ok (a, s.2) := id rfl
def partK : D → Res (Option Int)
  | .int i => .ok (some i)
  | _ => .bad
theorem a_part (m : M (M D)) (ρ : En) : ePart m ρ = (m ρ).bind fun p => (p.1 p.2).bind fun q => (partK q.1).bind fun a => .ok (a, q.2) := by
  have e : ∀ d : D, (match d with | .int i => Res.ok (some i) | _ => .bad : Res (Option Int)) = partK d := fun d => by cases d <;> rfl
  show ((m ρ).bind fun p => (p.1 p.2).bind fun q => (match q.1 with | .int i => Res.ok (some i) | _ => .bad : Res (Option Int)).bind fun a => .ok (a, q.2)) = _
  simp only [e]
theorem part_i (i : Int) : partK (.int i) = .ok (some i) := rfl
theorem a_no (ρ : En) : (pure none : M (Option Int)) ρ = .ok (none, ρ) := id rfl
theorem sl_t (ds : List D) (lo hi : Option Int) : dSl (.tuple ds) lo hi = .ok (.tuple (VS.cutD ds lo hi)) := rfl
theorem cut_len (ds : List D) (lo hi : Option Int) : (VS.cutD ds lo hi).length ≤ ds.length := by
  unfold VS.cutD
  rw [List.length_take, List.length_drop]; omega
theorem add_t {xs ys : List D} (h : xs.length + ys.length ≤ 64) : dAddL (.tuple xs) (.tuple ys) = .ok (.tuple (xs ++ ys)) := if_pos (le64 h)
theorem add_l {xs ys : List D} (h : xs.length + ys.length ≤ 64) : dAddL (.list xs) (.list ys) = .ok (.list (xs ++ ys)) := by
  show ((if xs.length + ys.length ≤ sizeLine then Res.ok (xs ++ ys) else .bad).bind fun ds => Res.ok (PyData.list ds)) = _
  rw [if_pos (le64 h), rb_ok]
theorem rev_t (ds : List D) : dRev (.tuple ds) = .ok (.tuple ds.reverse) := rfl
theorem list_t (ds : List D) : gList (.tuple ds) = .ok ds := rfl
def smallB : D → Bool
  | .tuple ds => decide (ds.length ≤ 64)
  | _ => true
theorem smallB_ok {d : D} (h : smallB d = true) : Small d := fun ds e => by subst e; exact of_decide_eq_true h
theorem atI_mem {ds : List D} {i : Int} (h0 : 0 ≤ i) (h1 : i < ds.length) : ∃ d ∈ ds, atI ds i = some d := by
  have h2 : i.toNat < ds.length := by omega
  refine ⟨ds[i.toNat], List.getElem_mem h2, ?_⟩
  unfold atI ixN
  rw [if_pos h0, if_pos h1]
  simp [h2]
theorem p29 : CPow 10 29 := by decide
def oddA : List D := [.none, .bool true, .bool false, .int (-1), .int 0, .int 1, .str "", .str "1", .tuple [], .list [], .tuple [.bool true], .list [.int 1], .dict [(.int 0, .int 1)], .tuple [.none], .tuple [.tuple [.int 1]], .int (10 ^ (29 : Int).toNat)]
def oddZ : List D := [.tuple [.int 0], .tuple [.int 1, .int 2]]
theorem odd_ok {st : List D} (hs : StOk st) : ∃ d st', f__law_odd st [] = .ok (d, st') ∧ smallB d = true ∧ StOk st' := by
  obtain ⟨r, st1, e1, r0, r1, s1⟩ := take_ok (m := 18) hs (by decide) (by decide)
  obtain ⟨d, hd, ed⟩ := atI_mem (ds := oddA ++ oddZ) r0 (by show r < 18; exact r1)
  have hall : (oddA ++ oddZ).all smallB = true := by rfl
  refine ⟨d, st1, ?_, List.all_eq_true.mp hall d hd, s1⟩
  refine a_runR 2 _ _ _ (ρ' := [.val (.list oddA)]) ?_
  show m__law_odd [.own st, .emp] = _
  unfold m__law_odd
  have hc := fun ρ : En => callO_at (i := 0) (ρ := Sl.own st :: ρ) (f := f__law_take) rfl e1
  refine seq_nx (set_ok (d := .list oddA) (ρ1 := [.own st, .emp]) ?_ (by simp) rfl) (ret_ok ?_)
  · simp only [a_L, a_lst, a_cons, a_int, a_nil, a_tup, a_e1, a_e2, a_vl, rb_ok, i_neg, i_pow p29, few_ok, List.length_cons, List.length_nil, Nat.reduceAdd, Nat.reduceLeDiff]
    rfl
  · have ha : dAddL (.list oddA) (.list [.tuple [.int 0], .tuple [.int 1, .int 2]]) = .ok (.list (oddA ++ oddZ)) := add_l (by show 16 + 2 ≤ 64; decide)
    have hi : dIx (.list (oddA ++ oddZ)) (.int r) = .ok d := ix_l ed
    simp only [a_L, a_lst, a_cons, a_int, a_nil, a_tup, a_e1, a_e2, a_vl, rb_ok, few_ok, List.length_cons, List.length_nil, Nat.reduceAdd, Nat.reduceLeDiff, eNm, eAt, List.getElem?_cons_zero, List.getElem?_cons_succ, List.set_cons_succ, List.set_cons_zero, ha, a_callR, isO, hc, hi, List.set_cons_zero]
theorem bent_ok {st : List D} {t : List Int} (hs : StOk st) (hl : t.length ≤ 5) : ∃ d st', f__law_bent_turning st [dTup t] = .ok (d, st') ∧ smallB d = true ∧ StOk st' := by
  have hlen : (dInts t).length = t.length := List.length_map ..
  have b1 : sSet 2 (e1 gLen (eNm 1)) [.own st, .val (dTup t), .emp, .emp, .emp, .emp, .emp] = .ok (.nx, [.own st, .val (dTup t), .val (.int t.length), .emp, .emp, .emp, .emp]) := set_ok (d := .int t.length) (ρ1 := [.own st, .val (dTup t), .emp, .emp, .emp, .emp, .emp]) (by simp only [a_e1, eNm, eAt, List.getElem?_cons_zero, List.getElem?_cons_succ, List.set_cons_succ, List.set_cons_zero, rb_ok, len_t, hlen]) (by simp) rfl
  by_cases hn : t.length = 0
  · obtain ⟨r, st1, e1, r0, r1, s1⟩ := take_ok (m := 6) hs (by decide) (by decide)
    obtain ⟨d, hd, ed⟩ := atI_mem (ds := [.tuple [.int 0], .tuple [.int 1], .list [], .none, .tuple [.tuple []], .tuple [.bool true]]) r0 (by show r < 6; exact r1)
    have hall : ([.tuple [.int 0], .tuple [.int 1], .list [], .none, .tuple [.tuple []], .tuple [.bool true]] : List D).all smallB = true := by rfl
    have hc := fun ρ : En => callO_at (i := 0) (ρ := Sl.own st :: ρ) (f := f__law_take) rfl e1
    refine ⟨d, st1, ?_, List.all_eq_true.mp hall d hd, s1⟩
    refine a_runR 7 _ _ _ (ρ' := [.val (dTup t), .val (.int t.length), .emp, .emp, .emp, .emp]) ?_
    show m__law_bent_turning [.own st, .val (dTup t), .emp, .emp, .emp, .emp, .emp] = _
    unfold m__law_bent_turning
    refine seq_nx b1 (seq_rt (if_t (ρ1 := [.own st, .val (dTup t), .val (.int t.length), .emp, .emp, .emp, .emp]) ?_ (ret_ok ?_)))
    · have e0 : ((t.length : Nat) : Int) = 0 := by omega
      simp only [rb_ok, rb_exc, rb_bad, bIf_t, bIf_f, a_int, a_vl, a_e1, a_e2, a_L, a_nil, a_cons, a_tup, a_lst, a_B, asB_b, a_and, a_or, a_not, a_notV, a_andV, a_orV, a_if, a_rg1, a_rg2, asI_i, asS_l, asS_t, a_call, a_callO, a_callSO, a_callSV, a_lenS, a_ixS, a_callR, a_popAt, a_lift, a_lift2, a_seq, sq_nx, sq_rt, sq_ro, sq_bk, sq_ct, a_fl, a_sif, a_ret, a_retO, a_do, a_set, a_setO, a_app, a_setIx, a_for, a_forc, forGo_nil, fg_nx, fg_ct, fg_bk, fg_rt, fg_ro, a_par, par_ok, i_sub, i_add, i_neg, i_abs, i_gt, i_ge, i_lt, i_le, i_eq, i_ne, len_l, len_t, tup_l, i_max, i_min, isi_ok, isis_ok, eNm, eAt, eVar, setV, setO, sv_nil, sv_cons, bd_t, isO, scrAt, appO, startE, startR, startS, List.map_cons, List.map_nil, List.cons_append, List.nil_append, List.replicate_succ, List.replicate_zero, List.length_cons, List.length_nil, List.getElem?_cons_zero, List.getElem?_cons_succ, List.set_cons_zero, List.set_cons_succ, ↓reduceIte, Nat.reduceLT, Nat.reduceAdd, Nat.reduceSub, Nat.lt_add_one, Nat.zero_lt_succ, Nat.succ_lt_succ_iff, e0, decide_true]
    · simp only [a_L, a_lst, a_cons, a_int, a_nil, a_tup, a_e2, a_vl, rb_ok, few_ok, List.length_cons, List.length_nil, Nat.reduceAdd, Nat.reduceLeDiff, a_callR, isO, hc, ix_l ed, List.set_cons_zero, List.getElem?_cons_zero]
  · obtain ⟨at_, st1, e1, a0, a1, s1⟩ := take_ok (m := (t.length : Int)) hs (by omega) (by omega)
    obtain ⟨to, st2, e2', t0, t1, s2⟩ := take_ok (m := (t.length : Int)) s1 (by omega) (by omega)
    obtain ⟨r, st3, e3', r0, r1, s3⟩ := take_ok (m := 11) s2 (by decide) (by decide)
    obtain ⟨q, st4, e4, q0, q1, s4⟩ := take_ok (m := 10) s3 (by decide) (by decide)
    have c1 := fun ρ : En => callO_at (i := 0) (ρ := Sl.own st :: ρ) (f := f__law_take) rfl e1
    have c2 := fun ρ : En => callO_at (i := 0) (ρ := Sl.own st1 :: ρ) (f := f__law_take) rfl e2'
    have c3 := fun ρ : En => callO_at (i := 0) (ρ := Sl.own st2 :: ρ) (f := f__law_take) rfl e3'
    have c4 := fun ρ : En => callO_at (i := 0) (ρ := Sl.own st3 :: ρ) (f := f__law_take) rfl e4
    have x1 := ix_t (at_ints (t := t) t0 t1)
    have x2 := ix_t (at_ints (t := t) a0 a1)
    let L11 : List D := [.int 0, .int (t.length + 1), .int (-t.length - 1), .bool true, .none, .str "1", .tuple [.int 1], .int (t.getD to.toNat 0), .int (-(t.getD to.toNat 0)), .int (-(t.getD at_.toNat 0)), .int (10 ^ (29 : Int).toNat)]
    obtain ⟨o, ho, eo⟩ := atI_mem (ds := L11) r0 (by show r < 11; exact r1)
    have io : dIx (.list L11) (.int r) = .ok o := ix_l eo
    have hA := cut_len (dInts t) none (some at_)
    have hB := cut_len (dInts t) (some (at_ + 1)) none
    have hC := cut_len (dInts t) (some at_) none
    have hE := cut_len (dInts t) none (some 1)
    rw [hlen] at hA hB hC hE
    have w1 : dAddL (.tuple (VS.cutD (dInts t) none (some at_))) (.tuple [o]) = .ok (.tuple (VS.cutD (dInts t) none (some at_) ++ [o])) := add_t (by rw [List.length_singleton]; omega)
    have w2 : dAddL (.tuple (VS.cutD (dInts t) none (some at_) ++ [o])) (.tuple (VS.cutD (dInts t) (some (at_ + 1)) none)) = .ok (.tuple (VS.cutD (dInts t) none (some at_) ++ [o] ++ cutD (dInts t) (some (at_ + 1)) none)) := add_t (by rw [List.length_append, List.length_singleton]; omega)
    have w3 : dAddL (.tuple (VS.cutD (dInts t) none (some at_) ++ [o])) (.tuple (VS.cutD (dInts t) (some at_) none)) = .ok (.tuple (VS.cutD (dInts t) none (some at_) ++ [o] ++ cutD (dInts t) (some at_) none)) := add_t (by rw [List.length_append, List.length_singleton]; omega)
    have w4 : dAddL (.tuple (VS.cutD (dInts t) none (some at_))) (.tuple (VS.cutD (dInts t) (some (at_ + 1)) none)) = .ok (.tuple (VS.cutD (dInts t) none (some at_) ++ cutD (dInts t) (some (at_ + 1)) none)) := add_t (by omega)
    have w5 : dAddL (dTup t) (.tuple [.int (t.length + 1)]) = .ok (.tuple (dInts t ++ [.int (t.length + 1)])) := add_t (by rw [List.length_singleton]; omega)
    have w6 : dAddL (dTup t) (.tuple (VS.cutD (dInts t) none (some 1))) = .ok (.tuple (dInts t ++ cutD (dInts t) none (some 1))) := add_t (by omega)
    let L4 : List D := [.tuple (VS.cutD (dInts t) none (some at_) ++ [o] ++ cutD (dInts t) (some (at_ + 1)) none), .tuple (VS.cutD (dInts t) none (some at_) ++ [o] ++ cutD (dInts t) (some at_) none), .list (dInts t), .tuple [dTup t]]
    let N4 : List D := [.tuple (VS.cutD (dInts t) none (some at_) ++ cutD (dInts t) (some (at_ + 1)) none), .tuple (dInts t ++ [.int (t.length + 1)]), .tuple (dInts t).reverse, .tuple (dInts t ++ cutD (dInts t) none (some 1))]
    have w7 : dAddL (.list L4) (.list N4) = .ok (.list (L4 ++ N4)) := add_l (by show 4 + 4 ≤ 64; decide)
    obtain ⟨j, j0, j1, ej⟩ : ∃ j : Int, 0 ≤ j ∧ j < 8 ∧ atI ([.int 0, .int 0, .int 0, .int 1, .int 2, .int 3, .int 4, .int 5, .int 6, .int 7] : List D) q = some (.int j) := by
      have : q = 0 ∨ q = 1 ∨ q = 2 ∨ q = 3 ∨ q = 4 ∨ q = 5 ∨ q = 6 ∨ q = 7 ∨ q = 8 ∨ q = 9 := by omega
      rcases this with rfl | rfl | rfl | rfl | rfl | rfl | rfl | rfl | rfl | rfl
      all_goals exact ⟨_, by decide, by decide, rfl⟩
    obtain ⟨d, hd, ed⟩ := atI_mem (ds := L4 ++ N4) j0 (by show j < 8; exact j1)
    have i1 : dIx (.list [.int 0, .int 0, .int 0, .int 1, .int 2, .int 3, .int 4, .int 5, .int 6, .int 7]) (.int q) = .ok (.int j) := ix_l ej
    have i2 : dIx (.list (L4 ++ N4)) (.int j) = .ok d := ix_l ed
    have sm : ∀ ds : List D, ds.length ≤ 64 → smallB (.tuple ds) = true := fun ds h => decide_eq_true h
    have hall : ∀ d ∈ L4 ++ N4, smallB d = true := by
      intro d hd
      have hd2 : d ∈ [PyData.tuple (VS.cutD (dInts t) none (some at_) ++ [o] ++ cutD (dInts t) (some (at_ + 1)) none), .tuple (VS.cutD (dInts t) none (some at_) ++ [o] ++ cutD (dInts t) (some at_) none), .list (dInts t), .tuple [dTup t], .tuple (VS.cutD (dInts t) none (some at_) ++ cutD (dInts t) (some (at_ + 1)) none), .tuple (dInts t ++ [.int (t.length + 1)]), .tuple (dInts t).reverse, .tuple (dInts t ++ cutD (dInts t) none (some 1))] := hd
      simp only [List.mem_cons, List.not_mem_nil, or_false] at hd2
      rcases hd2 with rfl | rfl | rfl | rfl | rfl | rfl | rfl | rfl
      · exact sm _ (by simp only [List.length_append, List.length_cons, List.length_nil]; omega)
      · exact sm _ (by simp only [List.length_append, List.length_cons, List.length_nil]; omega)
      · rfl
      · rfl
      · exact sm _ (by simp only [List.length_append]; omega)
      · exact sm _ (by simp only [List.length_append, List.length_cons, List.length_nil]; omega)
      · exact sm _ (by rw [List.length_reverse]; omega)
      · exact sm _ (by simp only [List.length_append]; omega)
    refine ⟨d, st4, ?_, hall d hd, s4⟩
    refine a_runR 7 _ _ _ (ρ' := [.val (dTup t), .val (.int t.length), .val o, .val (.list (L4 ++ N4)), .val (.int at_), .val (.int to)]) ?_
    show m__law_bent_turning [.own st, .val (dTup t), .emp, .emp, .emp, .emp, .emp] = _
    unfold m__law_bent_turning
    have e0 : ¬ ((t.length : Nat) : Int) = 0 := by omega
    refine seq_nx b1 (seq_nx (if_f (ρ1 := [.own st, .val (dTup t), .val (.int t.length), .emp, .emp, .emp, .emp]) (by simp only [rb_ok, rb_exc, rb_bad, bIf_t, bIf_f, a_int, a_vl, a_e1, a_e2, a_L, a_nil, a_cons, a_tup, a_lst, a_B, asB_b, a_and, a_or, a_not, a_notV, a_andV, a_orV, a_if, a_rg1, a_rg2, asI_i, asS_l, asS_t, a_call, a_callO, a_callSO, a_callSV, a_lenS, a_ixS, a_callR, a_popAt, a_lift, a_lift2, a_seq, sq_nx, sq_rt, sq_ro, sq_bk, sq_ct, a_fl, a_sif, a_ret, a_retO, a_do, a_set, a_setO, a_app, a_setIx, a_for, a_forc, forGo_nil, fg_nx, fg_ct, fg_bk, fg_rt, fg_ro, a_par, par_ok, i_sub, i_add, i_neg, i_abs, i_gt, i_ge, i_lt, i_le, i_eq, i_ne, len_l, len_t, tup_l, i_max, i_min, isi_ok, isis_ok, eNm, eAt, eVar, setV, setO, sv_nil, sv_cons, bd_t, isO, scrAt, appO, startE, startR, startS, List.map_cons, List.map_nil, List.cons_append, List.nil_append, List.replicate_succ, List.replicate_zero, List.length_cons, List.length_nil, List.getElem?_cons_zero, List.getElem?_cons_succ, List.set_cons_zero, List.set_cons_succ, ↓reduceIte, Nat.reduceLT, Nat.reduceAdd, Nat.reduceSub, Nat.lt_add_one, Nat.zero_lt_succ, Nat.succ_lt_succ_iff, e0, decide_false]) rfl) (seq_nx (par_ok2 (d := .int at_) (e := .int to) (ρ1 := [.own st2, .val (dTup t), .val (.int t.length), .emp, .emp, .emp, .emp]) ?_ (by simp) (by simp) rfl)
      (seq_nx (set_ok (d := .list L11) (ρ1 := [.own st2, .val (dTup t), .val (.int t.length), .emp, .emp, .val (.int at_), .val (.int to)]) ?_ (by simp) rfl)
      (seq_nx (set_ok (d := o) (ρ1 := [.own st3, .val (dTup t), .val (.int t.length), .val (.list L11), .emp, .val (.int at_), .val (.int to)]) ?_ (by simp) rfl)
      (seq_nx (set_ok (d := .list L4) (ρ1 := [.own st3, .val (dTup t), .val (.int t.length), .val o, .emp, .val (.int at_), .val (.int to)]) ?_ (by simp) rfl)
      (seq_nx (set_ok (d := .list (L4 ++ N4)) (ρ1 := [.own st3, .val (dTup t), .val (.int t.length), .val o, .val (.list L4), .val (.int at_), .val (.int to)]) ?_ (by simp) rfl)
      (ret_ok ?_)))))))
    · simp only [a_cons, a_callR, isO, List.getElem?_cons_zero, List.getElem?_cons_succ, List.set_cons_succ, List.set_cons_zero, rb_ok, eVar, a_nil, c1, c2, List.set_cons_zero]
    · simp only [a_L, a_lst, a_cons, a_int, a_nil, a_tup, a_e1, a_e2, a_vl, rb_ok, i_neg, i_add, i_sub, i_pow p29, few_ok, List.length_cons, List.length_nil, Nat.reduceAdd, Nat.reduceLeDiff, eNm, eAt, List.getElem?_cons_zero, List.getElem?_cons_succ, List.set_cons_succ, List.set_cons_zero, x1, x2]
      rfl
    · simp only [a_e2, a_vl, rb_ok, eNm, eAt, List.getElem?_cons_zero, List.getElem?_cons_succ, List.set_cons_succ, List.set_cons_zero, a_callR, isO, a_cons, a_int, a_nil, c3, List.set_cons_zero, io]
    · simp only [a_L, a_lst, a_cons, a_int, a_nil, a_tup, a_e1, a_e2, a_vl, rb_ok, i_add, few_ok, List.length_cons, List.length_nil, Nat.reduceAdd, Nat.reduceLeDiff, eNm, eAt, eVar, List.getElem?_cons_zero, List.getElem?_cons_succ, List.set_cons_succ, List.set_cons_zero, a_sl, a_no, a_part, part_i, sl_t, w1, w2, w3, list_t]
      rfl
    · simp only [a_L, a_lst, a_cons, a_int, a_nil, a_tup, a_e1, a_e2, a_vl, rb_ok, i_add, few_ok, List.length_cons, List.length_nil, Nat.reduceAdd, Nat.reduceLeDiff, eNm, eAt, eVar, List.getElem?_cons_zero, List.getElem?_cons_succ, List.set_cons_succ, List.set_cons_zero, a_sl, a_no, a_part, part_i, sl_t, w4, w5, w6, rev_t]
      rw [show dAddL (.list L4) (.list [.tuple (VS.cutD (dInts t) none (some at_) ++ cutD (dInts t) (some (at_ + 1)) none), .tuple (dInts t ++ [.int (t.length + 1)]), .tuple (dInts t).reverse, .tuple (dInts t ++ cutD (dInts t) none (some 1))]) = .ok (.list (L4 ++ N4)) from w7, rb_ok]
    · simp only [a_L, a_lst, a_cons, a_int, a_nil, a_e2, a_vl, rb_ok, few_ok, List.length_cons, List.length_nil, Nat.reduceAdd, Nat.reduceLeDiff, eNm, eAt, List.getElem?_cons_zero, List.getElem?_cons_succ, List.set_cons_succ, List.set_cons_zero, a_callR, isO, c4, List.set_cons_zero, i1, i2]
end LW

set_option Elab.async false
set_option linter.all false
set_option maxRecDepth 100000
set_option maxHeartbeats 4000000
namespace LW
open PySem PySem.Spec PyProof.Rows L2 VS
/-! ### the law -/
def lawC0 : M Bool := (eOr (eB (e2 dNotB (eVl (eCall f_is_turning (eCons (pure (.int 0)) (eCons (eTup (pure [])) (pure []))))) (eVl (pure (.bool true))))) (eOr (eB (e2 dNotB (eVl (eCall f_is_turning (eCons (pure (.int 1)) (eCons (eTup (eCons (pure (.bool true)) (pure []))) (pure []))))) (eVl (pure (.bool false))))) (eB (e2 dNotB (eVl (eCall f_is_turning (eCons (pure (.int 2)) (eCons (eTup (eCons (pure (.int 2)) (eCons (e1 dNeg (eVl (pure (.int 1)))) (pure [])))) (pure []))))) (eVl (pure (.bool true)))))))
def lawB1 : M Fl := (sSetO 2 (eCallSO 0 f__law_state (eCons (eVar 1) (pure []))))
def lawB2 : M Fl := (sSet 3 (eCallR 2 f__law_take (eCons (pure (.int 6)) (pure []))))
def lawB3 : M Fl := (sSet 4 (eCallR 2 f__law_turning (eCons (eVar 3) (pure []))))
def lawB4 : M Fl := (sSet 5 (eL (eLst (eCons (eVar 4) (eCons (eCallR 2 f__law_odd (pure [])) (eCons (eCallR 2 f__law_turning (eCons (eCallR 2 f__law_take (eCons (pure (.int 6)) (pure []))) (pure []))) (pure [])))))))
def lawB5 : M Fl := (sFor ((e2 dAddL (eNm 5) (eVl (eL (eLc [9] (eRg1 (eVl (pure (.int 4))) >>= fun p => M.lift (gRg p)) (setV 9) mYes (eCallR 2 f__law_bent_turning (eCons (eVar 4) (pure []))))))) >>= fun d => M.lift (asS d)) (setV 6) (sSeq (sSet 8 (eCall f_is_turning (eCons (eVar 3) (eCons (eVar 6) (pure []))))) (sIf (eOr (eNot (eB (e1 (gIsi "bool") (eNm 8)))) (eB (e2 dNe (eNm 8) (eVl (eCall f__law_is_turning (eCons (eVar 3) (eCons (eVar 6) (pure [])))))))) (sRet (pure (.bool false))) (pure .nx))))
def lawB6 : M Fl := (sFor ((e2 dAddL (eVl (eL ((eRg2 (eVl (pure (.int 1))) (eVl (e2 dAddL (eNm 3) (eVl (pure (.int 1)))))) >>= fun p => M.lift (gRgL p)))) (eVl (eL ((eRg2 (eVl (e1 dNeg (eNm 3))) (eVl (pure (.int 0)))) >>= fun p => M.lift (gRgL p))))) >>= fun d => M.lift (asS d)) (setV 7) (sIf (eNot (eB (eCall f__law_same (eCons (eCall f_led_sign (eCons (eVar 4) (eCons (eVar 7) (pure [])))) (eCons (eCall f__law_led_sign (eCons (eVar 4) (eCons (eVar 7) (pure [])))) (pure [])))))) (sRet (pure (.bool false))) (pure .nx)))
def lawB : M Fl := (sSeq lawB1 (sSeq lawB2 (sSeq lawB3 (sSeq lawB4 (sSeq lawB5 lawB6)))))
theorem law_eq : m_law = sSeq (sIf lawC0 (sRet (pure (.bool false))) (pure .nx)) (sSeq (sFor (eRg1 (eVl (e2 gMax (eVl (pure (.int 1))) (eVl (e2 gMin (eVl (eLenS 0)) (eVl (pure (.int 10))))))) >>= fun p => M.lift (gRg p)) (setV 1) lawB) (sRet (pure (.bool true)))) := rfl
def lawT : M Fl := (sSeq (sSet 8 (eCall f_is_turning (eCons (eVar 3) (eCons (eVar 6) (pure []))))) (sIf (eOr (eNot (eB (e1 (gIsi "bool") (eNm 8)))) (eB (e2 dNe (eNm 8) (eVl (eCall f__law_is_turning (eCons (eVar 3) (eCons (eVar 6) (pure [])))))))) (sRet (pure (.bool false))) (pure .nx)))
def lawS : M Fl := (sIf (eNot (eB (eCall f__law_same (eCons (eCall f_led_sign (eCons (eVar 4) (eCons (eVar 7) (pure [])))) (eCons (eCall f__law_led_sign (eCons (eVar 4) (eCons (eVar 7) (pure [])))) (pure [])))))) (sRet (pure (.bool false))) (pure .nx))
theorem b5_eq : lawB5 = sFor ((e2 dAddL (eNm 5) (eVl (eL (eLc [9] (eRg1 (eVl (pure (.int 4))) >>= fun p => M.lift (gRg p)) (setV 9) mYes (eCallR 2 f__law_bent_turning (eCons (eVar 4) (pure []))))))) >>= fun d => M.lift (asS d)) (setV 6) lawT := rfl
theorem b6_eq : lawB6 = sFor ((e2 dAddL (eVl (eL ((eRg2 (eVl (pure (.int 1))) (eVl (e2 dAddL (eNm 3) (eVl (pure (.int 1)))))) >>= fun p => M.lift (gRgL p)))) (eVl (eL ((eRg2 (eVl (e1 dNeg (eNm 3))) (eVl (pure (.int 0)))) >>= fun p => M.lift (gRgL p))))) >>= fun d => M.lift (asS d)) (setV 7) lawS := rfl
section
variable {ns : List Int} {n : Nat} {t : List Int} {st : List D}
theorem allT_len : ∀ (k : Nat) (rest : List Int) (t : List Int), t ∈ allT k rest → t.length = k
  | 0, _, t, h => by
    rw [List.mem_singleton.mp (show t ∈ [[]] from h)]; rfl
  | k + 1, rest, t, h => by
    obtain ⟨i, _, h2⟩ := List.mem_flatMap.mp h
    obtain ⟨r, hr, h3⟩ := List.mem_flatMap.mp h2
    have hl := allT_len k _ r hr
    rcases List.mem_cons.mp h3 with rfl | h3
    · rw [List.length_cons, hl]
    · rcases List.mem_cons.mp h3 with rfl | h3
      · rw [List.length_cons, hl]
      · cases h3
theorem trn_len (h : Trn n t) : t.length = n := allT_len _ _ _ h
theorem law_b1 (k : Nat) {s2 s3 s4 s5 s6 s7 s8 s9 : Sl} : ∃ st, StOk st ∧ lawB1 [.scr ns, .val (.int k), s2, s3, s4, s5, s6, s7, s8, s9] = .ok (.nx, [.scr ns, .val (.int k), .own st, s3, s4, s5, s6, s7, s8, s9]) := by
  obtain ⟨st, e, h⟩ := state_ok ns k
  refine ⟨st, h, setO_ok (ρ1 := [.scr ns, .val (.int k), s2, s3, s4, s5, s6, s7, s8, s9]) ?_ (by simp) rfl⟩
  simp only [a_callSO, scrAt, List.getElem?_cons_zero, List.getElem?_cons_succ, rb_ok, a_cons, eVar, a_nil, e]
theorem law_b2 {k : Sl} {s3 s4 s5 s6 s7 s8 s9 : Sl} (h : StOk st) : ∃ (n : Nat) (st' : List D), n ≤ 5 ∧ StOk st' ∧ lawB2 [.scr ns, k, .own st, s3, s4, s5, s6, s7, s8, s9] = .ok (.nx, [.scr ns, k, .own st', .val (.int n), s4, s5, s6, s7, s8, s9]) := by
  obtain ⟨r, st', e, r0, r1, h'⟩ := take_ok (m := 6) h (by decide) (by decide)
  obtain ⟨n, rfl⟩ := Int.eq_ofNat_of_zero_le r0
  refine ⟨n, st', by omega, h', set_ok (d := .int n) (ρ1 := [.scr ns, k, .own st', s3, s4, s5, s6, s7, s8, s9]) ?_ (by simp) rfl⟩
  have hc := callO_at (i := 2) (ρ := [.scr ns, k, .own st, s3, s4, s5, s6, s7, s8, s9]) (f := f__law_take) rfl e
  simp only [a_callR, isO, List.getElem?_cons_zero, List.getElem?_cons_succ, rb_ok, a_cons, a_int, a_nil, hc, List.set_cons_zero, List.set_cons_succ]
theorem law_b3 {k : Sl} {s4 s5 s6 s7 s8 s9 : Sl} (hn : n ≤ 5) (h : StOk st) : ∃ (t : List Int) (st' : List D), t.length = n ∧ StOk st' ∧ lawB3 [.scr ns, k, .own st, .val (.int n), s4, s5, s6, s7, s8, s9] = .ok (.nx, [.scr ns, k, .own st', .val (.int n), .val (dTup t), s5, s6, s7, s8, s9]) := by
  obtain ⟨a, st1, e1, ha, h1⟩ := turning_ok h hn
  have c1 := callO_at (i := 2) (ρ := [.scr ns, k, .own st, .val (.int n), s4, s5, s6, s7, s8, s9]) (f := f__law_turning) rfl e1
  refine ⟨a, st1, trn_len ha, h1, set_ok (d := dTup a) (ρ1 := [.scr ns, k, .own st1, .val (.int n), s4, s5, s6, s7, s8, s9]) ?_ (by simp) rfl⟩
  simp only [a_callR, isO, List.getElem?_cons_zero, List.getElem?_cons_succ, rb_ok, a_cons, eVar, a_nil, c1, List.set_cons_zero, List.set_cons_succ]
theorem law_b4 {k : Sl} {s3 s5 s6 s7 s8 s9 : Sl} (ht : t.length ≤ 5) (h : StOk st) : ∃ (th : List D) (st' : List D), th.length = 3 ∧ (∀ d ∈ th, Small d) ∧ StOk st' ∧ lawB4 [.scr ns, k, .own st, s3, .val (dTup t), s5, s6, s7, s8, s9] = .ok (.nx, [.scr ns, k, .own st', s3, .val (dTup t), .val (.list th), s6, s7, s8, s9]) := by
  obtain ⟨d, st1, e1, hd, h1⟩ := odd_ok h
  obtain ⟨r, st2, e2', r0, r1, h2⟩ := take_ok (m := 6) h1 (by decide) (by decide)
  obtain ⟨n, rfl⟩ := Int.eq_ofNat_of_zero_le r0
  obtain ⟨b, st3, e3', hb, h3⟩ := turning_ok (n := n) h2 (by omega)
  have c1 := callO_at (i := 2) (ρ := [.scr ns, k, .own st, s3, .val (dTup t), s5, s6, s7, s8, s9]) (f := f__law_odd) rfl e1
  have c2 := callO_at (i := 2) (ρ := [.scr ns, k, .own st1, s3, .val (dTup t), s5, s6, s7, s8, s9]) (f := f__law_take) rfl e2'
  have c3 := callO_at (i := 2) (ρ := [.scr ns, k, .own st2, s3, .val (dTup t), s5, s6, s7, s8, s9]) (f := f__law_turning) rfl e3'
  refine ⟨[dTup t, d, dTup b], st3, rfl, ?_, h3, set_ok (d := .list [dTup t, d, dTup b]) (ρ1 := [.scr ns, k, .own st3, s3, .val (dTup t), s5, s6, s7, s8, s9]) ?_ (by simp) rfl⟩
  · intro x hx
    simp only [List.mem_cons, List.not_mem_nil, or_false] at hx
    rcases hx with rfl | rfl | rfl
    · exact smallB_ok (decide_eq_true (by rw [List.length_map]; omega))
    · exact smallB_ok hd
    · exact smallB_ok (decide_eq_true (by rw [List.length_map, trn_len hb]; omega))
  · simp only [a_L, a_lst, a_cons, a_callR, isO, List.getElem?_cons_zero, List.getElem?_cons_succ, rb_ok, eVar, a_int, a_nil, c1, c2, c3, List.set_cons_zero, List.set_cons_succ, few_ok, List.length_cons, List.length_nil, Nat.reduceAdd, Nat.reduceLeDiff]
theorem ne_bools (b : Bool) : dNe (.bool b) (.bool b) = .ok (.bool false) := by cases b <;> rfl
theorem law_t {k s2 s4 s5 s7 s8 s9 : Sl} {d : D} (hn : n ≤ 5) (hd : Small d) : ∃ b, lawT [.scr ns, k, s2, .val (.int n), s4, s5, .val d, s7, s8, s9] = .ok (.nx, [.scr ns, k, s2, .val (.int n), s4, s5, .val d, s7, .val (.bool b), s9]) := by
  obtain ⟨b, g1, g2⟩ := ist_ok (n := n) (by omega) hd
  refine ⟨b, ?_⟩
  unfold lawT
  refine seq_nx (set_ok (d := .bool b) (ρ1 := [.scr ns, k, s2, .val (.int n), s4, s5, .val d, s7, s8, s9]) ?_ (by simp) rfl) (if_f (ρ1 := [.scr ns, k, s2, .val (.int n), s4, s5, .val d, s7, .val (.bool b), s9]) (or_f (ρ1 := [.scr ns, k, s2, .val (.int n), s4, s5, .val d, s7, .val (.bool b), s9]) ?_ ?_) rfl)
  · simp only [a_call, a_cons, a_nil, eVar, List.getElem?_cons_zero, List.getElem?_cons_succ, rb_ok, g1]
  · have ib : isTy "bool" (.bool b) = true := rfl
    simp only [List.set_cons_zero, List.set_cons_succ, a_not, a_B, a_e1, eNm, eAt, List.getElem?_cons_zero, List.getElem?_cons_succ, rb_ok, isi_ok, ib, asB_b, Bool.not_true]
  · simp only [a_B, a_e2, a_vl, a_call, a_cons, a_nil, eVar, eNm, eAt, a_int, List.getElem?_cons_zero, List.getElem?_cons_succ, rb_ok, g2, ne_bools, asB_b]
theorem law_b5 {k s7 s6 s8 : Sl} {th : List D} (hn : n ≤ 5) (ht : t.length ≤ 5) (h : StOk st) (hl : th.length = 3) (hs : ∀ d ∈ th, Small d) : ∃ st' s6' s8', lawB5 [.scr ns, k, .own st, .val (.int n), .val (dTup t), .val (.list th), s6, s7, s8, .emp] = .ok (.nx, [.scr ns, k, .own st', .val (.int n), .val (dTup t), .val (.list th), s6', s7, s8', .emp]) := by
  have rg : (eRg1 (eVl (pure (.int 4))) >>= fun p => M.lift (gRg p)) [.scr ns, k, .own st, .val (.int n), .val (dTup t), .val (.list th), s6, s7, s8, .emp] = .ok (rg0 4, [.scr ns, k, .own st, .val (.int n), .val (dTup t), .val (.list th), s6, s7, s8, .emp]) := by
    have k3 : (eRg1 (eVl (pure (.int 4)))) [.scr ns, k, .own st, .val (.int n), .val (dTup t), .val (.list th), s6, s7, s8, .emp] = .ok ((0, 4), [.scr ns, k, .own st, .val (.int n), .val (dTup t), .val (.list th), s6, s7, s8, .emp]) := by simp only [a_rg1, a_vl, a_int, rb_ok, asI_i]
    have g4 : gRg (0, 4) = .ok (rg0 4) := rg0_ok (n := 4) (by omega)
    rw [a_lift, k3, rb_ok, g4, rb_ok]
  obtain ⟨ys, ρ', ec, ⟨st', rfl, hst⟩, hyl, hys⟩ := eLc_inv (vs := [9]) (bd := setV 9) (me := eCallR 2 f__law_bent_turning (eCons (eVar 4) (pure [])))
    (fun ρ => ∃ st, ρ = [.scr ns, k, .own st, .val (.int n), .val (dTup t), .val (.list th), s6, s7, s8, .emp] ∧ StOk st) (fun d => smallB d = true) (by
      rintro d ρ ⟨st, rfl, hst⟩
      obtain ⟨y, st', e, sy, hst'⟩ := bent_ok hst ht
      have c1 := callO_at (i := 2) (ρ := [.scr ns, k, .own st, .val (.int n), .val (dTup t), .val (.list th), s6, s7, s8, .val d]) (f := f__law_bent_turning) rfl e
      refine ⟨[.scr ns, k, .own st, .val (.int n), .val (dTup t), .val (.list th), s6, s7, s8, .val d], [.scr ns, k, .own st', .val (.int n), .val (dTup t), .val (.list th), s6, s7, s8, .val d], y, rfl, ?_, sy, st', rfl, hst'⟩
      simp only [a_callR, isO, a_cons, a_nil, eVar, List.getElem?_cons_zero, List.getElem?_cons_succ, rb_ok, c1, List.set_cons_zero, List.set_cons_succ]) rg rfl (by rw [rg0_len]; exact le64 (by omega)) ⟨st, rfl, h⟩
  rw [rg0_len] at hyl
  have ec' : eLc [9] (eRg1 (eVl (pure (.int 4))) >>= fun p => M.lift (gRg p)) (setV 9) mYes (eCallR 2 f__law_bent_turning (eCons (eVar 4) (pure []))) [.scr ns, k, .own st, .val (.int n), .val (dTup t), .val (.list th), s6, s7, s8, .emp] = .ok (ys, [.scr ns, k, .own st', .val (.int n), .val (dTup t), .val (.list th), s6, s7, s8, .emp]) := ec
  have ad : dAddL (.list th) (.list ys) = .ok (.list (th ++ ys)) := add_l (by omega)
  have mi : ((e2 dAddL (eNm 5) (eVl (eL (eLc [9] (eRg1 (eVl (pure (.int 4))) >>= fun p => M.lift (gRg p)) (setV 9) mYes (eCallR 2 f__law_bent_turning (eCons (eVar 4) (pure []))))))) >>= fun d => M.lift (asS d)) [.scr ns, k, .own st, .val (.int n), .val (dTup t), .val (.list th), s6, s7, s8, .emp] = .ok (th ++ ys, [.scr ns, k, .own st', .val (.int n), .val (dTup t), .val (.list th), s6, s7, s8, .emp]) := by
    have e5 : eNm 5 [.scr ns, k, .own st, .val (.int n), .val (dTup t), .val (.list th), s6, s7, s8, .emp] = .ok (eAt 5, [.scr ns, k, .own st, .val (.int n), .val (dTup t), .val (.list th), s6, s7, s8, .emp]) := rfl
    rw [a_lift, a_e2, e5, rb_ok, a_vl, a_L, ec']
    simp only [rb_ok, eAt, List.getElem?_cons_zero, List.getElem?_cons_succ, a_int, ad, asS_l]
  let I : List D → En → Prop := fun ds ρ => (∃ s6 s8, ρ = [.scr ns, k, .own st', .val (.int n), .val (dTup t), .val (.list th), s6, s7, s8, .emp]) ∧ ∀ d ∈ ds, Small d
  obtain ⟨ρ', e, ⟨s6', s8', rfl⟩, _⟩ := forGo_inv (bd := setV 6) (body := lawT) I (by
    rintro d ds ρ ⟨⟨s6, s8, rfl⟩, hd⟩
    obtain ⟨b, e⟩ := law_t (ns := ns) (k := k) (s2 := .own st') (s4 := .val (dTup t)) (s5 := .val (.list th)) (s7 := s7) (s8 := s8) (s9 := .emp) hn (hd d List.mem_cons_self)
    exact ⟨[.scr ns, k, .own st', .val (.int n), .val (dTup t), .val (.list th), .val d, s7, s8, .emp], _, rfl, e, ⟨_, _, rfl⟩, fun d m => hd d (List.mem_cons_of_mem _ m)⟩) (th ++ ys) [.scr ns, k, .own st', .val (.int n), .val (dTup t), .val (.list th), s6, s7, s8, .emp] ⟨⟨_, _, rfl⟩, fun d hd => by
      rcases List.mem_append.mp hd with hd | hd
      · exact hs d hd
      · exact smallB_ok (hys d hd)⟩
  exact ⟨st', s6', s8', by rw [b5_eq]; exact for_ok mi e⟩
theorem same_i (i : Int) : f__law_same [.int i, .int i] = .ok (.bool true) := by
  have := same_int i i
  rw [decide_eq_true (rfl : i = i)] at this
  exact this
def negL (n : Nat) : List Int := (List.range (0 - -(n : Int)).toNat).map fun i : Nat => -(n : Int) + (i : Int)
theorem law_b6 {k s2 s5 s6 s7 s8 s9 : Sl} (hn : n ≤ 5) (ht : t.length = n) : ∃ s7', lawB6 [.scr ns, k, s2, .val (.int n), .val (dTup t), s5, s6, s7, s8, s9] = .ok (.nx, [.scr ns, k, s2, .val (.int n), .val (dTup t), s5, s6, s7', s8, s9]) := by
  have r1 : ((eRg2 (eVl (pure (.int 1))) (eVl (e2 dAddL (eNm 3) (eVl (pure (.int 1)))))) >>= fun p => M.lift (gRgL p)) [.scr ns, k, s2, .val (.int n), .val (dTup t), s5, s6, s7, s8, s9] = .ok (dInts (stillL n), [.scr ns, k, s2, .val (.int n), .val (dTup t), s5, s6, s7, s8, s9]) := rgLn (by omega) (by simp only [rb_ok, rb_exc, rb_bad, bIf_t, bIf_f, a_int, a_vl, a_e1, a_e2, a_L, a_nil, a_cons, a_tup, a_lst, a_B, asB_b, a_and, a_or, a_not, a_notV, a_andV, a_orV, a_if, a_rg1, a_rg2, asI_i, asS_l, asS_t, a_call, a_callO, a_callSO, a_callSV, a_lenS, a_ixS, a_callR, a_popAt, a_lift, a_lift2, a_seq, sq_nx, sq_rt, sq_ro, sq_bk, sq_ct, a_fl, a_sif, a_ret, a_retO, a_do, a_set, a_setO, a_app, a_setIx, a_for, a_forc, forGo_nil, fg_nx, fg_ct, fg_bk, fg_rt, fg_ro, a_par, par_ok, i_sub, i_add, i_neg, i_abs, i_gt, i_ge, i_lt, i_le, i_eq, i_ne, len_l, len_t, tup_l, i_max, i_min, isi_ok, isis_ok, eNm, eAt, eVar, setV, setO, sv_nil, sv_cons, bd_t, isO, scrAt, appO, startE, startR, startS, List.map_cons, List.map_nil, List.cons_append, List.nil_append, List.replicate_succ, List.replicate_zero, List.length_cons, List.length_nil, List.getElem?_cons_zero, List.getElem?_cons_succ, List.set_cons_zero, List.set_cons_succ, ↓reduceIte, Nat.reduceLT, Nat.reduceAdd, Nat.reduceSub, Nat.lt_add_one, Nat.zero_lt_succ, Nat.succ_lt_succ_iff])
  have g2 : gRgL (-(n : Int), 0) = .ok (dInts (negL n)) := rgL_ok (by unfold RgOk; refine ⟨by omega, by omega, by decide, by decide, by omega⟩)
  have k2 : (eRg2 (eVl (e1 dNeg (eNm 3))) (eVl (pure (.int 0)))) [.scr ns, k, s2, .val (.int n), .val (dTup t), s5, s6, s7, s8, s9] = .ok ((-(n : Int), 0), [.scr ns, k, s2, .val (.int n), .val (dTup t), s5, s6, s7, s8, s9]) := by simp only [rb_ok, rb_exc, rb_bad, bIf_t, bIf_f, a_int, a_vl, a_e1, a_e2, a_L, a_nil, a_cons, a_tup, a_lst, a_B, asB_b, a_and, a_or, a_not, a_notV, a_andV, a_orV, a_if, a_rg1, a_rg2, asI_i, asS_l, asS_t, a_call, a_callO, a_callSO, a_callSV, a_lenS, a_ixS, a_callR, a_popAt, a_lift, a_lift2, a_seq, sq_nx, sq_rt, sq_ro, sq_bk, sq_ct, a_fl, a_sif, a_ret, a_retO, a_do, a_set, a_setO, a_app, a_setIx, a_for, a_forc, forGo_nil, fg_nx, fg_ct, fg_bk, fg_rt, fg_ro, a_par, par_ok, i_sub, i_add, i_neg, i_abs, i_gt, i_ge, i_lt, i_le, i_eq, i_ne, len_l, len_t, tup_l, i_max, i_min, isi_ok, isis_ok, eNm, eAt, eVar, setV, setO, sv_nil, sv_cons, bd_t, isO, scrAt, appO, startE, startR, startS, List.map_cons, List.map_nil, List.cons_append, List.nil_append, List.replicate_succ, List.replicate_zero, List.length_cons, List.length_nil, List.getElem?_cons_zero, List.getElem?_cons_succ, List.set_cons_zero, List.set_cons_succ, ↓reduceIte, Nat.reduceLT, Nat.reduceAdd, Nat.reduceSub, Nat.lt_add_one, Nat.zero_lt_succ, Nat.succ_lt_succ_iff]
  have r2 : ((eRg2 (eVl (e1 dNeg (eNm 3))) (eVl (pure (.int 0)))) >>= fun p => M.lift (gRgL p)) [.scr ns, k, s2, .val (.int n), .val (dTup t), s5, s6, s7, s8, s9] = .ok (dInts (negL n), [.scr ns, k, s2, .val (.int n), .val (dTup t), s5, s6, s7, s8, s9]) := by
    rw [a_lift, k2, rb_ok, g2, rb_ok]
  have nl : (negL n).length = n := by
    unfold negL
    rw [List.length_map, List.length_range]; omega
  have ad : dAddL (.list (dInts (stillL n))) (.list (dInts (negL n))) = .ok (.list (dInts (stillL n) ++ dInts (negL n))) := add_l (by rw [List.length_map, List.length_map, still_len, nl]; omega)
  have mi : ((e2 dAddL (eVl (eL ((eRg2 (eVl (pure (.int 1))) (eVl (e2 dAddL (eNm 3) (eVl (pure (.int 1)))))) >>= fun p => M.lift (gRgL p)))) (eVl (eL ((eRg2 (eVl (e1 dNeg (eNm 3))) (eVl (pure (.int 0)))) >>= fun p => M.lift (gRgL p))))) >>= fun d => M.lift (asS d)) [.scr ns, k, s2, .val (.int n), .val (dTup t), s5, s6, s7, s8, s9] = .ok (dInts (stillL n) ++ dInts (negL n), [.scr ns, k, s2, .val (.int n), .val (dTup t), s5, s6, s7, s8, s9]) := by
    rw [a_lift, a_e2, a_vl, a_L, r1, rb_ok, rb_ok, rb_ok, a_vl, a_L, r2]
    simp only [rb_ok, a_int, ad, asS_l]
  let I : List D → En → Prop := fun ds ρ => (∃ s7, ρ = [.scr ns, k, s2, .val (.int n), .val (dTup t), s5, s6, s7, s8, s9]) ∧ ∀ d ∈ ds, ∃ s : Int, d = .int s ∧ s ≠ 0 ∧ -(n : Int) ≤ s ∧ s ≤ n
  obtain ⟨ρ', e, ⟨s7', rfl⟩, _⟩ := forGo_inv (bd := setV 7) (body := lawS) I (by
    rintro d ds ρ ⟨⟨s7, rfl⟩, hd⟩
    obtain ⟨s, rfl, h0, h1, h2⟩ := hd d List.mem_cons_self
    refine ⟨[.scr ns, k, s2, .val (.int n), .val (dTup t), s5, s6, .val (.int s), s8, s9], [.scr ns, k, s2, .val (.int n), .val (dTup t), s5, s6, .val (.int s), s8, s9], rfl, ?_, ⟨_, rfl⟩, fun d m => hd d (List.mem_cons_of_mem _ m)⟩
    have g1 := led_ok (t := t) h0 (by rw [ht]; exact h1) (by rw [ht]; exact h2)
    have g2 := lled_ok (t := t) h0 (by rw [ht]; exact h1) (by rw [ht]; exact h2)
    unfold lawS
    refine if_f (ρ1 := [.scr ns, k, s2, .val (.int n), .val (dTup t), s5, s6, .val (.int s), s8, s9]) ?_ rfl
    simp only [a_not, a_B, a_call, a_cons, a_nil, eVar, List.getElem?_cons_zero, List.getElem?_cons_succ, rb_ok, g1, g2, same_i, asB_b, Bool.not_true]) (dInts (stillL n) ++ dInts (negL n)) [.scr ns, k, s2, .val (.int n), .val (dTup t), s5, s6, s7, s8, s9] ⟨⟨_, rfl⟩, fun d hd => by
      rcases List.mem_append.mp hd with hd | hd
      · obtain ⟨s, hs, rfl⟩ := List.mem_map.mp hd
        obtain ⟨i, hi, rfl⟩ := List.mem_map.mp hs
        have := List.mem_range.mp hi
        exact ⟨_, rfl, by omega, by omega, by omega⟩
      · obtain ⟨s, hs, rfl⟩ := List.mem_map.mp hd
        obtain ⟨i, hi, rfl⟩ := List.mem_map.mp hs
        have := List.mem_range.mp hi
        exact ⟨_, rfl, by omega, by omega, by omega⟩⟩
  exact ⟨s7', by rw [b6_eq]; exact for_ok mi e⟩
theorem law_turn (k : Nat) {s2 s3 s4 s5 s6 s7 s8 : Sl} : ∃ t2 t3 t4 t5 t6 t7 t8, lawB [.scr ns, .val (.int k), s2, s3, s4, s5, s6, s7, s8, .emp] = .ok (.nx, [.scr ns, .val (.int k), t2, t3, t4, t5, t6, t7, t8, .emp]) := by
  obtain ⟨st, h1, e1⟩ := law_b1 (ns := ns) k (s2 := s2) (s3 := s3) (s4 := s4) (s5 := s5) (s6 := s6) (s7 := s7) (s8 := s8) (s9 := .emp)
  obtain ⟨n, st', hn, h2, e2⟩ := law_b2 (ns := ns) (k := .val (.int k)) (s3 := s3) (s4 := s4) (s5 := s5) (s6 := s6) (s7 := s7) (s8 := s8) (s9 := .emp) h1
  obtain ⟨t, st2, ht, h3, e3⟩ := law_b3 (ns := ns) (k := .val (.int k)) (s4 := s4) (s5 := s5) (s6 := s6) (s7 := s7) (s8 := s8) (s9 := .emp) hn h2
  obtain ⟨th, st3, hl, hs, h4, e4⟩ := law_b4 (ns := ns) (k := .val (.int k)) (s3 := .val (.int n)) (s5 := s5) (s6 := s6) (s7 := s7) (s8 := s8) (s9 := .emp) (t := t) (by omega) h3
  obtain ⟨st4, s6', s8', e5⟩ := law_b5 (ns := ns) (k := .val (.int k)) (s6 := s6) (s7 := s7) (s8 := s8) (t := t) hn (by omega) h4 hl hs
  obtain ⟨s7', e6⟩ := law_b6 (ns := ns) (k := .val (.int k)) (s2 := .own st4) (s5 := .val (.list th)) (s6 := s6') (s7 := s7) (s8 := s8') (s9 := .emp) (t := t) hn ht
  exact ⟨_, _, _, _, _, _, _, seq_nx e1 (seq_nx e2 (seq_nx e3 (seq_nx e4 (seq_nx e5 e6))))⟩
end
theorem ist_eq {n : Nat} {ts : List Int} (hn : n ≤ 64) (hl : ts.length = n) : f_is_turning [.int n, dTup ts] = .ok (.bool (decide (sortI (absL ts) = stillL n))) := by
  have hl2 : ts.length ≤ 64 := by omega
  have hlen : (dInts ts).length = ts.length := List.length_map ..
  have k1 := whole_lc (n := .int n) (ds := dInts ts) f_is_whole iswhole_ok (by rw [hlen]; exact hl2)
  have rg : ((eRg2 (eVl (pure (.int 1))) (eVl (e2 dAddL (eNm 0) (eVl (pure (.int 1)))))) >>= fun p => M.lift (gRgL p)) [.val (.int n), .val (dTup ts), .emp] = .ok (dInts (stillL n), [.val (.int n), .val (dTup ts), .emp]) := rgLn hn (by simp only [rb_ok, rb_exc, rb_bad, bIf_t, bIf_f, a_int, a_vl, a_e1, a_e2, a_L, a_nil, a_cons, a_tup, a_lst, a_B, asB_b, a_and, a_or, a_not, a_notV, a_andV, a_orV, a_if, a_rg1, a_rg2, asI_i, asS_l, asS_t, a_call, a_callO, a_callSO, a_callSV, a_lenS, a_ixS, a_callR, a_popAt, a_lift, a_lift2, a_seq, sq_nx, sq_rt, sq_ro, sq_bk, sq_ct, a_fl, a_sif, a_ret, a_retO, a_do, a_set, a_setO, a_app, a_setIx, a_for, a_forc, forGo_nil, fg_nx, fg_ct, fg_bk, fg_rt, fg_ro, a_par, par_ok, i_sub, i_add, i_neg, i_abs, i_gt, i_ge, i_lt, i_le, i_eq, i_ne, len_l, len_t, tup_l, i_max, i_min, isi_ok, isis_ok, eNm, eAt, eVar, setV, setO, sv_nil, sv_cons, bd_t, isO, scrAt, appO, startE, startR, startS, List.map_cons, List.map_nil, List.cons_append, List.nil_append, List.replicate_succ, List.replicate_zero, List.length_cons, List.length_nil, List.getElem?_cons_zero, List.getElem?_cons_succ, List.set_cons_zero, List.set_cons_succ, ↓reduceIte, Nat.reduceLT, Nat.reduceAdd, Nat.reduceSub, Nat.lt_add_one, Nat.zero_lt_succ, Nat.succ_lt_succ_iff])
  have g1 := bools_map (fun bs => bs.all id) ((dInts ts).map isW)
  have hw : (((dInts ts).map isW).all id) = true := by
    rw [List.all_eq_true]
    intro b hb
    obtain ⟨d, hd, rfl⟩ := List.mem_map.mp hb
    obtain ⟨i, _, rfl⟩ := List.mem_map.mp hd
    rfl
  rw [hw] at g1
  have as := abs_sort (n := .int n) hl2
  refine a_runBr 3 _ _ (ρ' := [.val (.int n), .val (dTup ts), .emp]) ?_
  show m_is_turning [.val (.int n), .val (dTup ts), .emp] = _
  unfold m_is_turning
  have hq : (ts.length : Int) = n := by omega
  refine seq_nx (if_f (ρ1 := [.val (.int n), .val (dTup ts), .emp]) (or_f (ρ1 := [.val (.int n), .val (dTup ts), .emp]) (by simp only [rb_ok, rb_exc, rb_bad, bIf_t, bIf_f, a_int, a_vl, a_e1, a_e2, a_L, a_nil, a_cons, a_tup, a_lst, a_B, asB_b, a_and, a_or, a_not, a_notV, a_andV, a_orV, a_if, a_rg1, a_rg2, asI_i, asS_l, asS_t, a_call, a_callO, a_callSO, a_callSV, a_lenS, a_ixS, a_callR, a_popAt, a_lift, a_lift2, a_seq, sq_nx, sq_rt, sq_ro, sq_bk, sq_ct, a_fl, a_sif, a_ret, a_retO, a_do, a_set, a_setO, a_app, a_setIx, a_for, a_forc, forGo_nil, fg_nx, fg_ct, fg_bk, fg_rt, fg_ro, a_par, par_ok, i_sub, i_add, i_neg, i_abs, i_gt, i_ge, i_lt, i_le, i_eq, i_ne, len_l, len_t, tup_l, i_max, i_min, isi_ok, isis_ok, eNm, eAt, eVar, setV, setO, sv_nil, sv_cons, bd_t, isO, scrAt, appO, startE, startR, startS, List.map_cons, List.map_nil, List.cons_append, List.nil_append, List.replicate_succ, List.replicate_zero, List.length_cons, List.length_nil, List.getElem?_cons_zero, List.getElem?_cons_succ, List.set_cons_zero, List.set_cons_succ, ↓reduceIte, Nat.reduceLT, Nat.reduceAdd, Nat.reduceSub, Nat.lt_add_one, Nat.zero_lt_succ, Nat.succ_lt_succ_iff, isi_tup, Bool.not_true]) (or_f (ρ1 := [.val (.int n), .val (dTup ts), .emp]) (by simp only [rb_ok, rb_exc, rb_bad, bIf_t, bIf_f, a_int, a_vl, a_e1, a_e2, a_L, a_nil, a_cons, a_tup, a_lst, a_B, asB_b, a_and, a_or, a_not, a_notV, a_andV, a_orV, a_if, a_rg1, a_rg2, asI_i, asS_l, asS_t, a_call, a_callO, a_callSO, a_callSV, a_lenS, a_ixS, a_callR, a_popAt, a_lift, a_lift2, a_seq, sq_nx, sq_rt, sq_ro, sq_bk, sq_ct, a_fl, a_sif, a_ret, a_retO, a_do, a_set, a_setO, a_app, a_setIx, a_for, a_forc, forGo_nil, fg_nx, fg_ct, fg_bk, fg_rt, fg_ro, a_par, par_ok, i_sub, i_add, i_neg, i_abs, i_gt, i_ge, i_lt, i_le, i_eq, i_ne, len_l, len_t, tup_l, i_max, i_min, isi_ok, isis_ok, eNm, eAt, eVar, setV, setO, sv_nil, sv_cons, bd_t, isO, scrAt, appO, startE, startR, startS, List.map_cons, List.map_nil, List.cons_append, List.nil_append, List.replicate_succ, List.replicate_zero, List.length_cons, List.length_nil, List.getElem?_cons_zero, List.getElem?_cons_succ, List.set_cons_zero, List.set_cons_succ, ↓reduceIte, Nat.reduceLT, Nat.reduceAdd, Nat.reduceSub, Nat.lt_add_one, Nat.zero_lt_succ, Nat.succ_lt_succ_iff, hlen, hq, decide_true, Bool.not_true]) ?_)) rfl) (ret_ok ?_)
  · rw [a_not, a_B, a_e1, a_vl, k1]
    simp only [rb_ok, a_int, g1, asB_b, Bool.not_true]
  · rw [a_e2, a_vl, as, rb_ok, rb_ok, a_vl, a_L, rg]
    simp only [rb_ok, a_int, eq_lists]
theorem law_first {ns : List Int} {s1 s2 s3 s4 s5 s6 s7 s8 s9 : Sl} : lawC0 [.scr ns, s1, s2, s3, s4, s5, s6, s7, s8, s9] = .ok (false, [.scr ns, s1, s2, s3, s4, s5, s6, s7, s8, s9]) := by
  have fw : few ([] : List D) = .ok [] := few_ok (by simp)
  have f1 : ∀ a : D, few [a] = .ok [a] := fun a => few_ok (by simp)
  have f2 : ∀ a b : D, few [a, b] = .ok [a, b] := fun a b => few_ok (by simp)
  have t0 : f_is_turning [.int 0, .tuple []] = .ok (.bool true) := by
    have h := ist_eq (n := 0) (ts := []) (by omega) rfl
    have e : sortI (absL []) = stillL 0 := List.length_eq_zero_iff.mp (sortI_len _)
    rw [decide_eq_true e] at h
    exact h
  have t2 : f_is_turning [.int 2, .tuple [.int 2, .int (-1)]] = .ok (.bool true) := by
    have h := ist_eq (n := 2) (ts := [2, -1]) (by omega) rfl
    have e : sortI (absL [2, -1]) = stillL 2 := sorted_unique ((sortI_perm _).trans (by decide)) (sortI_sorted _) (by decide)
    rw [decide_eq_true e] at h
    exact h
  have t1 : f_is_turning [.int 1, .tuple [.bool true]] = .ok (.bool false) := rfl
  have nb : ∀ b, dNotB (.bool b) (.bool b) = .ok (.bool false) := fun b => by cases b <;> rfl
  have ng : dNeg (.int 1) = .ok (.int (-1)) := rfl
  unfold lawC0
  refine or_f (ρ1 := [.scr ns, s1, s2, s3, s4, s5, s6, s7, s8, s9]) ?_ (or_f (ρ1 := [.scr ns, s1, s2, s3, s4, s5, s6, s7, s8, s9]) ?_ ?_)
  · simp only [a_B, a_e2, a_vl, a_call, a_cons, a_tup, a_nil, rb_ok, fw, t0, a_int, nb, asB_b]
  · simp only [a_B, a_e2, a_vl, a_call, a_cons, a_tup, a_nil, rb_ok, f1, t1, a_int, nb, asB_b]
  · simp only [a_B, a_e2, a_vl, a_call, a_cons, a_tup, a_nil, rb_ok, f2, t2, a_int, nb, asB_b, a_e1, ng]
theorem law_true (ns : List Int) (hl : ns.length ≤ 63) : f_law ns [] = .ok (.bool true) := by
  let I : List D → En → Prop := fun ds ρ => (∃ s1 s2 s3 s4 s5 s6 s7 s8, ρ = [.scr ns, s1, s2, s3, s4, s5, s6, s7, s8, .emp]) ∧ ∀ d ∈ ds, ∃ k : Nat, d = .int k
  have step : ∀ d ds ρ, I (d :: ds) ρ → ∃ ρ1 ρ2, setV 1 d ρ = .ok ((), ρ1) ∧ lawB ρ1 = .ok (.nx, ρ2) ∧ I ds ρ2 := by
    rintro d ds ρ ⟨⟨s1, s2, s3, s4, s5, s6, s7, s8, rfl⟩, hd⟩
    obtain ⟨k, rfl⟩ := hd d List.mem_cons_self
    obtain ⟨t2, t3, t4, t5, t6, t7, t8, e⟩ := law_turn (ns := ns) k (s2 := s2) (s3 := s3) (s4 := s4) (s5 := s5) (s6 := s6) (s7 := s7) (s8 := s8)
    exact ⟨[.scr ns, .val (.int k), s2, s3, s4, s5, s6, s7, s8, .emp], _, rfl, e, ⟨_, _, _, _, _, _, _, _, rfl⟩, fun d m => hd d (List.mem_cons_of_mem _ m)⟩
  let q : Int := if (if (10 : Int) < ns.length then 10 else (ns.length : Int)) > 1 then (if (10 : Int) < ns.length then 10 else (ns.length : Int)) else 1
  have hq : q ≤ 63 ∧ 0 ≤ q := by
    show (if (if (10 : Int) < ns.length then 10 else (ns.length : Int)) > 1 then (if (10 : Int) < ns.length then 10 else (ns.length : Int)) else 1) ≤ 63 ∧ 0 ≤ (if (if (10 : Int) < ns.length then 10 else (ns.length : Int)) > 1 then (if (10 : Int) < ns.length then 10 else (ns.length : Int)) else 1)
    split <;> split <;> omega
  have hrg : gRg (0, q) = .ok (dInts ((List.range (q - 0).toNat).map fun i : Nat => 0 + (i : Int))) := rg_ok (by unfold RgB; refine ⟨by decide, by decide, by omega, by omega⟩)
  obtain ⟨ρ', e, ⟨s1, s2, s3, s4, s5, s6, s7, s8, rfl⟩, _⟩ := forGo_inv I step (dInts ((List.range (q - 0).toNat).map fun i : Nat => 0 + (i : Int))) [.scr ns, .emp, .emp, .emp, .emp, .emp, .emp, .emp, .emp, .emp] ⟨⟨_, _, _, _, _, _, _, _, rfl⟩, fun d hd => by
    obtain ⟨i, hi, rfl⟩ := List.mem_map.mp hd
    obtain ⟨j, _, rfl⟩ := List.mem_map.mp hi
    exact ⟨j, by rw [Int.zero_add]⟩⟩
  refine a_runSV 10 _ _ _ (ρ' := [.scr ns, s1, s2, s3, s4, s5, s6, s7, s8, .emp]) ?_
  have k3 : (eRg1 (eVl (e2 gMax (eVl (pure (.int 1))) (eVl (e2 gMin (eVl (eLenS 0)) (eVl (pure (.int 10)))))))) [.scr ns, .emp, .emp, .emp, .emp, .emp, .emp, .emp, .emp, .emp] = .ok ((0, q), [.scr ns, .emp, .emp, .emp, .emp, .emp, .emp, .emp, .emp, .emp]) := by
    simp only [a_rg1, a_vl, a_e2, a_int, a_lenS, scrAt, List.getElem?_cons_zero, rb_ok, i_min, i_max, asI_i]
    rfl
  have k2 : (eRg1 (eVl (e2 gMax (eVl (pure (.int 1))) (eVl (e2 gMin (eVl (eLenS 0)) (eVl (pure (.int 10))))))) >>= fun p => M.lift (gRg p)) [.scr ns, .emp, .emp, .emp, .emp, .emp, .emp, .emp, .emp, .emp] = .ok (dInts ((List.range (q - 0).toNat).map fun i : Nat => 0 + (i : Int)), [.scr ns, .emp, .emp, .emp, .emp, .emp, .emp, .emp, .emp, .emp]) := by
    rw [a_lift, k3, rb_ok, hrg, rb_ok]
  rw [law_eq]
  exact seq_nx (if_f (ρ1 := [.scr ns, .emp, .emp, .emp, .emp, .emp, .emp, .emp, .emp, .emp]) law_first rfl) (seq_nx (for_ok k2 e) (ret_ok rfl))
end LW

set_option Elab.async false
set_option linter.all false
set_option maxRecDepth 100000
set_option maxHeartbeats 0
namespace LW
open PySem PySem.Spec PyProof.Rows L2 VS
/-! ### the head -/
section
def D_is_whole : He.DefD := ⟨("is_whole", none), "is_whole", "is_whole", defArgs s_is_whole, defBody s_is_whole, defScope s_is_whole, [], []⟩
def D_is_turning : He.DefD := ⟨("is_turning", none), "is_turning", "is_turning", defArgs s_is_turning, defBody s_is_turning, defScope s_is_turning, [], []⟩
def D_led_sign : He.DefD := ⟨("led_sign", none), "led_sign", "led_sign", defArgs s_led_sign, defBody s_led_sign, defScope s_led_sign, [], []⟩
def D__law_cell_at : He.DefD := ⟨("_law_cell_at", none), "_law_cell_at", "_law_cell_at", defArgs s__law_cell_at, defBody s__law_cell_at, defScope s__law_cell_at, [], []⟩
def D__law_state : He.DefD := ⟨("_law_state", none), "_law_state", "_law_state", defArgs s__law_state, defBody s__law_state, defScope s__law_state, [], []⟩
def D__law_take : He.DefD := ⟨("_law_take", none), "_law_take", "_law_take", defArgs s__law_take, defBody s__law_take, defScope s__law_take, [], []⟩
def D__law_turning : He.DefD := ⟨("_law_turning", none), "_law_turning", "_law_turning", defArgs s__law_turning, defBody s__law_turning, defScope s__law_turning, [], []⟩
def D__law_led_sign : He.DefD := ⟨("_law_led_sign", none), "_law_led_sign", "_law_led_sign", defArgs s__law_led_sign, defBody s__law_led_sign, defScope s__law_led_sign, [], []⟩
def D__law_whole : He.DefD := ⟨("_law_whole", none), "_law_whole", "_law_whole", defArgs s__law_whole, defBody s__law_whole, defScope s__law_whole, [], []⟩
def D__law_is_turning : He.DefD := ⟨("_law_is_turning", none), "_law_is_turning", "_law_is_turning", defArgs s__law_is_turning, defBody s__law_is_turning, defScope s__law_is_turning, [], []⟩
def D__law_odd : He.DefD := ⟨("_law_odd", none), "_law_odd", "_law_odd", defArgs s__law_odd, defBody s__law_odd, defScope s__law_odd, [], []⟩
def D__law_bent_turning : He.DefD := ⟨("_law_bent_turning", none), "_law_bent_turning", "_law_bent_turning", defArgs s__law_bent_turning, defBody s__law_bent_turning, defScope s__law_bent_turning, [], []⟩
def D__law_same : He.DefD := ⟨("_law_same", none), "_law_same", "_law_same", defArgs s__law_same, defBody s__law_same, defScope s__law_same, [], []⟩
def D_law : He.DefD := ⟨("law", none), "law", "law", defArgs s_law, defBody s_law, defScope s_law, [], []⟩
def fn : List He.DefD := [D_is_whole, D_is_turning, D_led_sign, D__law_cell_at, D__law_state, D__law_take, D__law_turning, D__law_led_sign, D__law_whole, D__law_is_turning, D__law_odd, D__law_bent_turning, D__law_same, D_law]
def fa : List He.Fa := [.glo "is_whole", .glo "is_turning", .glo "led_sign", .glo "_law_cell_at", .glo "_law_state", .glo "_law_take", .glo "_law_turning", .glo "_law_led_sign", .glo "_law_whole", .glo "_law_is_turning", .glo "_law_odd", .glo "_law_bent_turning", .glo "_law_same", .glo "law", .free "abs", .free "all", .free "bool", .free "int", .free "isinstance", .free "len", .free "list", .free "max", .free "min", .free "range", .free "sorted", .free "tuple", .free "zip"]
abbrev R : PySem.W.OpenRow := PySem.W.OpenLaw.row PySem.Challenge.rw_twinriddles_k21_turnings_looked_at
abbrev hk : PySem.W.Hook := He.hookD 4 fa fn
def ob (s : PySem.W.SharedT) : He.AlD := He.obsDG 4 fa fn (HandSHeadRun.getT s)
theorem ob_eq (s : PySem.W.SharedT) : ob s = hk.obs s.abs := He.obsDG_eq (HandSHeadRun.getT_eq s)
def lo : List Str := ["is_whole", "is_turning", "led_sign", "_law_cell_at", "_law_state", "_law_take", "_law_turning", "_law_led_sign", "_law_whole", "_law_is_turning", "_law_odd", "_law_bent_turning", "_law_same"]
theorem run (w : World) : HandSHeadRun.RunEq R (PySem.W.view R.prog [16]) hk ob 600 lo w := by
  intro os
  kernel_rfl
theorem facts {P : Program} {w : World} {K : PySem.W.Frag} {h : Heap} {mg : Str → Option Value} {f : Addr} (X : K.In h) (G : h.Ns mainGlobals mg) (hfa : mg ("law" : Str) = some (.ref f)) (c : He.SaysD fa fn K) :
    ∃ fd : FuncData, (∀ (s : Shared) (v : Value), BindsTo s fd ⟨[v], []⟩ [("_law_script", v)]) ∧ ∀ base : Heap, K.In base → base.Ns mainGlobals mg → FnOk P w K mg base CX0 10 f fd ["_law_script"] (spLaw (K := K)) := by
  obtain ⟨fd_is_whole, F_is_whole⟩ := c.def_ 0 (d := D_is_whole) rfl
  obtain ⟨fd_is_turning, F_is_turning⟩ := c.def_ 1 (d := D_is_turning) rfl
  obtain ⟨fd_led_sign, F_led_sign⟩ := c.def_ 2 (d := D_led_sign) rfl
  obtain ⟨fd__law_cell_at, F__law_cell_at⟩ := c.def_ 3 (d := D__law_cell_at) rfl
  obtain ⟨fd__law_state, F__law_state⟩ := c.def_ 4 (d := D__law_state) rfl
  obtain ⟨fd__law_take, F__law_take⟩ := c.def_ 5 (d := D__law_take) rfl
  obtain ⟨fd__law_turning, F__law_turning⟩ := c.def_ 6 (d := D__law_turning) rfl
  obtain ⟨fd__law_led_sign, F__law_led_sign⟩ := c.def_ 7 (d := D__law_led_sign) rfl
  obtain ⟨fd__law_whole, F__law_whole⟩ := c.def_ 8 (d := D__law_whole) rfl
  obtain ⟨fd__law_is_turning, F__law_is_turning⟩ := c.def_ 9 (d := D__law_is_turning) rfl
  obtain ⟨fd__law_odd, F__law_odd⟩ := c.def_ 10 (d := D__law_odd) rfl
  obtain ⟨fd__law_bent_turning, F__law_bent_turning⟩ := c.def_ 11 (d := D__law_bent_turning) rfl
  obtain ⟨fd__law_same, F__law_same⟩ := c.def_ 12 (d := D__law_same) rfl
  obtain ⟨fd_law, F_law⟩ := c.def_ 13 (d := D_law) rfl
  have e := hfa.symm.trans (He.glo_ok X G (c.fact 13 (f := .glo "law") rfl))
  cases e
  have T : Txt K mg := {
    n_abs := He.free_ok X G (c.fact 14 (f := .free "abs") rfl)
    n_all := He.free_ok X G (c.fact 15 (f := .free "all") rfl)
    n_bool := He.free_ok X G (c.fact 16 (f := .free "bool") rfl)
    n_int := He.free_ok X G (c.fact 17 (f := .free "int") rfl)
    n_isinstance := He.free_ok X G (c.fact 18 (f := .free "isinstance") rfl)
    n_len := He.free_ok X G (c.fact 19 (f := .free "len") rfl)
    n_list := He.free_ok X G (c.fact 20 (f := .free "list") rfl)
    n_max := He.free_ok X G (c.fact 21 (f := .free "max") rfl)
    n_min := He.free_ok X G (c.fact 22 (f := .free "min") rfl)
    n_range := He.free_ok X G (c.fact 23 (f := .free "range") rfl)
    n_sorted := He.free_ok X G (c.fact 24 (f := .free "sorted") rfl)
    n_tuple := He.free_ok X G (c.fact 25 (f := .free "tuple") rfl)
    n_zip := He.free_ok X G (c.fact 26 (f := .free "zip") rfl)
  }
  have b := FunD.bindsA (ps := ["_law_script"]) F_law fun _ _ _ _ _ _ us hl => match us, hl with | [_], _ => rfl
  refine ⟨fd_law, fun s v => b s [v] rfl, fun base _ _ => ?_⟩
  have G_is_whole := d_is_whole (P := P) (w := w) (base := base) T  F_is_whole (He.glo_ok X G (c.fact 0 (f := .glo "is_whole") rfl))
  have G_is_turning := d_is_turning (P := P) (w := w) (base := base) T G_is_whole F_is_turning (He.glo_ok X G (c.fact 1 (f := .glo "is_turning") rfl))
  have G_led_sign := d_led_sign (P := P) (w := w) (base := base) T  F_led_sign (He.glo_ok X G (c.fact 2 (f := .glo "led_sign") rfl))
  have G__law_cell_at := d__law_cell_at (P := P) (w := w) (base := base) T  F__law_cell_at (He.glo_ok X G (c.fact 3 (f := .glo "_law_cell_at") rfl))
  have G__law_state := d__law_state (P := P) (w := w) (base := base) T G__law_cell_at F__law_state (He.glo_ok X G (c.fact 4 (f := .glo "_law_state") rfl))
  have G__law_take := d__law_take (P := P) (w := w) (base := base) T  F__law_take (He.glo_ok X G (c.fact 5 (f := .glo "_law_take") rfl))
  have G__law_turning := d__law_turning (P := P) (w := w) (base := base) T G__law_take F__law_turning (He.glo_ok X G (c.fact 6 (f := .glo "_law_turning") rfl))
  have G__law_led_sign := d__law_led_sign (P := P) (w := w) (base := base) T  F__law_led_sign (He.glo_ok X G (c.fact 7 (f := .glo "_law_led_sign") rfl))
  have G__law_whole := d__law_whole (P := P) (w := w) (base := base) T  F__law_whole (He.glo_ok X G (c.fact 8 (f := .glo "_law_whole") rfl))
  have G__law_is_turning := d__law_is_turning (P := P) (w := w) (base := base) T G__law_whole F__law_is_turning (He.glo_ok X G (c.fact 9 (f := .glo "_law_is_turning") rfl))
  have G__law_odd := d__law_odd (P := P) (w := w) (base := base) T G__law_take F__law_odd (He.glo_ok X G (c.fact 10 (f := .glo "_law_odd") rfl))
  have G__law_bent_turning := d__law_bent_turning (P := P) (w := w) (base := base) T G__law_take F__law_bent_turning (He.glo_ok X G (c.fact 11 (f := .glo "_law_bent_turning") rfl))
  have G__law_same := d__law_same (P := P) (w := w) (base := base) T  F__law_same (He.glo_ok X G (c.fact 12 (f := .glo "_law_same") rfl)) 8
  exact law_ok (d_law (P := P) (w := w) (base := base) T G__law_state G__law_take G__law_turning G_is_turning G__law_odd G__law_bent_turning G__law_same G__law_is_turning G_led_sign G__law_led_sign F_law hfa) law_true
end
end LW
open PySem PySem.W PySem.Calls PyProof.Rows
theorem PySem.Challenge.cw_twinriddles_k21_turnings_looked_at_holds : PySem.Challenge.rw_twinriddles_k21_turnings_looked_at.Holds := by
  w_on; o_law
  refine HandSHeadRun.head_any (r := OpenLaw.row PySem.Challenge.rw_twinriddles_k21_turnings_looked_at) (q := view (OpenLaw.row PySem.Challenge.rw_twinriddles_k21_turnings_looked_at).prog [16]) (H := LW.hk) (ob := LW.ob) (M := 600) (loose := LW.lo) (d := HandSHeadRun.topDef (OpenLaw.row PySem.Challenge.rw_twinriddles_k21_turnings_looked_at).prog 16) (kwd := []) LW.ob_eq
    (by kernel_rfl) (fun s => by kernel_rfl) LW.run (by kernel_rfl) (by kernel_rfl) (by kernel_rfl) (by rfl) (by first | assumption | decide +kernel) (by decide +kernel) ⟨rfl, rfl, rfl, rfl, rfl, by decide +kernel⟩ ?hw ?hc
  case hw => w_witness2
  case hc =>
    refine L2.walk_ofE (l := PySem.Challenge.rw_twinriddles_k21_turnings_looked_at) (n := 63) (k := 10) (x := "_law_script") (CX := L2.CX0) rfl (by decide) (by kernel_rfl) ⟨rfl, by decide, by decide⟩ ?F (fun _ _ _ _ z => z)
    intro w mg fa h Y G hmg0
    obtain ⟨K, KX, c⟩ := Y
    have hmg : mg ("law" : PySem.Str) = some (.ref fa) := by
      have e : (HandSHeadRun.topDef (OpenLaw.row PySem.Challenge.rw_twinriddles_k21_turnings_looked_at).prog 16).name = ("law" : PySem.Str) := by kernel_rfl
      rw [← e]
      exact hmg0
    obtain ⟨fd, hb, hF⟩ := LW.facts (P := (PySem.Challenge.rw_twinriddles_k21_turnings_looked_at).prog) (w := w) KX G hmg c
    exact ⟨K, fd, VS.spLaw (K := K), KX, hb, fun H a ns hl _ hS => ⟨a, ns, rfl, hl, hS, fun _ => rfl⟩, hF⟩
