import PyProof.Rows.All
import Wide.All
import OpenK.AllK
import Wide.FinOn
import HandS.Base
import HandS.Call
import HandS.List
import HandS.Comp
import HandS.Iter
import HandS.Words
import HandS.TupAny
import HandS.TupLe
import HandS.Style
import HandS.IsInst
import HandS.Deep
import HandS.Conv
import HandS.SortInts
import HandS.NoneIn
import HandS.Exc
import HandS.TryOnly
import HandS.ExcOwn
import HandS.WordsExc
import HandS.Defaults
import KE.GoesEnum
import KE.GoesEnumKw
import HandS.Zip
import HandS.SortKw
import HandS.HeadEnd
import HandS.More
import HandS.NamedTupSort
import HandS.TupSets
import KE.KDictSum
import KE.KSortKeyAny
import PyProof.ExcBaseAll.ValueError
import HandS.HeadHook1
import KE.KStateDown
import HandS.Ends
import HandS.Head0
import HandS.Head1
import HandS.Head2
import HandS.HeadHook2
import PySem.Challenge.RW_twinriddles_k24_whole_turnings
set_option Elab.async false
set_option linter.all false
set_option maxRecDepth 100000
set_option maxHeartbeats 4000000
/-! VS: values instead of heaps. What is frozen is read out of a part F of the heap that only grows. -/
namespace VS
open PySem PySem.Spec PyProof.Rows L2

abbrev D := PyData
def keyD : Key → D
  | .inl i => .int i
  | .inr x => .str x

mutual
def Rp (K : PySem.W.Frag) (F : Hp) : D → V → Prop
  | .none, v => v = .non
  | .bool b, v => v = .bl b
  | .int i, v => v = .int i
  | .str x, v => v = .str x
  | .list ds, v => ∃ a xs, v = .ref a ∧ Rd F a (.lst xs) ∧ xs.length ≤ sizeLine ∧ RpAll K F ds xs
  | .tuple ds, v => ∃ a xs, v = .ref a ∧ F a = some (.tup xs) ∧ xs.length ≤ sizeLine ∧ RpAll K F ds xs
  | .dict kvs, v => ∃ a kv, v = .ref a ∧ F a = some (.dK kv) ∧ RpKv K F kvs kv
def RpAll (K : PySem.W.Frag) (F : Hp) : List D → List V → Prop
  | [], xs => xs = []
  | d :: ds, xs => ∃ y ys, xs = y :: ys ∧ Rp K F d y ∧ RpAll K F ds ys
def RpKv (K : PySem.W.Frag) (F : Hp) : List (D × D) → List (Key × V) → Prop
  | [], kv => kv = []
  | (k, d) :: r, kv => ∃ k' v r', kv = (k', v) :: r' ∧ k = keyD k' ∧ Rp K F d v ∧ RpKv K F r r'
end

theorem rd_same {H H' : Hp} {a : Addr} {u : HO} (e : Same H H') (h : Rd H a u) : Rd H' a u := by
  rcases h with h | ⟨o, h⟩
  · exact .inl (e _ _ h)
  · exact .inr ⟨o, e _ _ h⟩

section
variable {K : PySem.W.Frag} {F F' : Hp}
mutual
theorem Rp.mono (s : Same F F') : ∀ {d : D} {v : V}, Rp K F d v → Rp K F' d v
  | .none, _, h => h
  | .bool _, _, h => h
  | .int _, _, h => h
  | .str _, _, h => h
  | .list ds, v, h => by
    obtain ⟨a, xs, e, q, z, r⟩ := (show ∃ a xs, v = .ref a ∧ Rd F a (.lst xs) ∧ xs.length ≤ sizeLine ∧ RpAll K F ds xs from h)
    exact ⟨a, xs, e, rd_same s q, z, RpAll.mono s r⟩
  | .tuple ds, v, h => by
    obtain ⟨a, xs, e, q, z, r⟩ := (show ∃ a xs, v = .ref a ∧ F a = some (.tup xs) ∧ xs.length ≤ sizeLine ∧ RpAll K F ds xs from h)
    exact ⟨a, xs, e, s _ _ q, z, RpAll.mono s r⟩
  | .dict kvs, v, h => by
    obtain ⟨a, kv, e, q, r⟩ := (show ∃ a kv, v = .ref a ∧ F a = some (.dK kv) ∧ RpKv K F kvs kv from h)
    exact ⟨a, kv, e, s _ _ q, RpKv.mono s r⟩
theorem RpAll.mono (s : Same F F') : ∀ {ds : List D} {vs : List V}, RpAll K F ds vs → RpAll K F' ds vs
  | [], _, h => h
  | d :: ds, vs, h => by
    obtain ⟨y, ys, e, r, q⟩ := (show ∃ y ys, vs = y :: ys ∧ Rp K F d y ∧ RpAll K F ds ys from h)
    exact ⟨y, ys, e, Rp.mono s r, RpAll.mono s q⟩
theorem RpKv.mono (s : Same F F') : ∀ {ds : List (D × D)} {vs : List (Key × V)}, RpKv K F ds vs → RpKv K F' ds vs
  | [], _, h => h
  | (k, d) :: ds, vs, h => by
    obtain ⟨k', v, r', e, ek, r, q⟩ := (show ∃ k' v r', vs = (k', v) :: r' ∧ k = keyD k' ∧ Rp K F d v ∧ RpKv K F ds r' from h)
    exact ⟨k', v, r', e, ek, Rp.mono s r, RpKv.mono s q⟩
end
theorem RpAll.nil : RpAll K F [] [] := rfl
theorem RpAll.cons {d : D} {v : V} {ds : List D} {vs : List V} (r : Rp K F d v) (q : RpAll K F ds vs) : RpAll K F (d :: ds) (v :: vs) := ⟨v, vs, rfl, r, q⟩
theorem RpAll.len : ∀ {ds : List D} {vs : List V}, RpAll K F ds vs → ds.length = vs.length
  | [], _, h => by cases h; rfl
  | d :: ds, vs, ⟨y, ys, e, r, q⟩ => by subst e; simp [RpAll.len q]
theorem RpAll.get : ∀ {ds : List D} {vs : List V} {i : Nat} {v : V}, RpAll K F ds vs → vs[i]? = some v → ∃ d, ds[i]? = some d ∧ Rp K F d v
  | [], vs, i, v, h, e => by cases h; simp at e
  | d :: ds, vs, i, v, ⟨y, ys, e', r, q⟩, e => by
    subst e'
    cases i with
    | zero => simp at e; subst e; exact ⟨d, rfl, r⟩
    | succ i => simpa using RpAll.get q (by simpa using e)
theorem RpAll.get' : ∀ {ds : List D} {vs : List V} {i : Nat} {d : D}, RpAll K F ds vs → ds[i]? = some d → ∃ v, vs[i]? = some v ∧ Rp K F d v
  | [], vs, i, v, h, e => by simp at e
  | d :: ds, vs, i, v, ⟨y, ys, e', r, q⟩, e => by
    subst e'
    cases i with
    | zero => simp at e; subst e; exact ⟨y, rfl, r⟩
    | succ i => simpa using RpAll.get' q (by simpa using e)
theorem RpAll.append : ∀ {ds es : List D} {vs ws : List V}, RpAll K F ds vs → RpAll K F es ws → RpAll K F (ds ++ es) (vs ++ ws)
  | [], es, vs, ws, h, g => by cases h; exact g
  | d :: ds, es, vs, ws, ⟨y, ys, e', r, q⟩, g => by subst e'; exact ⟨y, ys ++ ws, rfl, r, RpAll.append q g⟩
theorem RpAll.take : ∀ (n : Nat) {ds : List D} {vs : List V}, RpAll K F ds vs → RpAll K F (ds.take n) (vs.take n)
  | 0, ds, vs, h => by simp; rfl
  | n + 1, [], vs, h => by cases h; exact rfl
  | n + 1, d :: ds, vs, ⟨y, ys, e', r, q⟩ => by subst e'; exact ⟨y, _, rfl, r, RpAll.take n q⟩
theorem RpAll.drop : ∀ (n : Nat) {ds : List D} {vs : List V}, RpAll K F ds vs → RpAll K F (ds.drop n) (vs.drop n)
  | 0, ds, vs, h => h
  | n + 1, [], vs, h => by cases h; exact rfl
  | n + 1, d :: ds, vs, ⟨y, ys, e', r, q⟩ => by subst e'; exact RpAll.drop n q
theorem RpAll.set : ∀ (i : Nat) {ds : List D} {vs : List V} {d : D} {v : V}, RpAll K F ds vs → Rp K F d v → RpAll K F (ds.set i d) (vs.set i v)
  | _, [], vs, d, v, h, r => by cases h; exact rfl
  | 0, d :: ds, vs, _, _, ⟨y, ys, e', r, q⟩, r' => by subst e'; exact ⟨_, _, rfl, r', q⟩
  | i + 1, d :: ds, vs, _, _, ⟨y, ys, e', r, q⟩, r' => by subst e'; exact ⟨_, _, rfl, r, RpAll.set i q r'⟩
theorem RpAll.erase : ∀ (i : Nat) {ds : List D} {vs : List V}, RpAll K F ds vs → RpAll K F (ds.eraseIdx i) (vs.eraseIdx i)
  | _, [], vs, h => by cases h; exact rfl
  | 0, d :: ds, vs, ⟨y, ys, e', r, q⟩ => by subst e'; exact q
  | i + 1, d :: ds, vs, ⟨y, ys, e', r, q⟩ => by subst e'; exact ⟨_, _, rfl, r, RpAll.erase i q⟩
theorem RpAll.reverse : ∀ {ds : List D} {vs : List V}, RpAll K F ds vs → RpAll K F ds.reverse vs.reverse
  | [], vs, h => by cases h; exact rfl
  | d :: ds, vs, ⟨y, ys, e', r, q⟩ => by subst e'; simp only [List.reverse_cons]; exact (RpAll.reverse q).append (.cons r .nil)
theorem RpAll.dropLast {ds : List D} {vs : List V} (h : RpAll K F ds vs) : RpAll K F ds.dropLast vs.dropLast := by
  rw [List.dropLast_eq_take, List.dropLast_eq_take, h.len]; exact h.take _
theorem RpAll.ints : ∀ {ns : List Int} {vs : List V}, RpAll K F (ns.map PyData.int) vs → vs = ns.map V.int
  | [], vs, h => by cases h; rfl
  | n :: ns, vs, ⟨y, ys, e', r, q⟩ => by subst e'; cases r; simp [RpAll.ints q]
theorem RpAll.bools : ∀ {ns : List Bool} {vs : List V}, RpAll K F (ns.map PyData.bool) vs → vs = ns.map V.bl
  | [], vs, h => by cases h; rfl
  | n :: ns, vs, ⟨y, ys, e', r, q⟩ => by subst e'; cases r; simp [RpAll.bools q]
theorem RpAll.of_ints : ∀ (ns : List Int), RpAll K F (ns.map PyData.int) (ns.map V.int)
  | [] => rfl
  | n :: ns => ⟨_, _, rfl, rfl, RpAll.of_ints ns⟩
theorem RpAll.of_bools : ∀ (ns : List Bool), RpAll K F (ns.map PyData.bool) (ns.map V.bl)
  | [] => rfl
  | n :: ns => ⟨_, _, rfl, rfl, RpAll.of_bools ns⟩
end

/-! ### the state -/
inductive Sl where
  | emp
  | val (d : D)
  /-- the script -/
  | scr (ns : List Int)
  /-- a list of one's own, not frozen -/
  | own (ds : List D)
  /-- a dict of one's own whose keys are tuples (of ints and texts) -/
  | dT (kvs : List (List Key × D))
  /-- a dict of one's own whose keys are ints and texts -/
  | dK (kvs : List (Key × D))
def Sl.isOwn : Sl → Bool
  | .own _ => true
  | .dT _ => true
  | .dK _ => true
  | _ => false
abbrev En := List Sl
inductive Res (α : Type) where
  | ok (a : α)
  | exc (c : Str)
  | bad
def Res.bind {α β : Type} : Res α → (α → Res β) → Res β
  | .ok a, f => f a
  | .exc c, _ => .exc c
  | .bad, _ => .bad
instance : Monad Res where
  pure := Res.ok
  bind := Res.bind
def M (α : Type) := En → Res (α × En)
def M.bind {α β : Type} (m : M α) (f : α → M β) : M β := fun ρ => (m ρ).bind fun p => f p.1 p.2
instance : Monad M where
  pure a := fun ρ => .ok (a, ρ)
  bind := M.bind
def M.lift {α : Type} (r : Res α) : M α := fun ρ => r.bind fun a => .ok (a, ρ)

/-- what a def's body keeps to: rf the list that it may change, Ex what is wanted of an exception -/
structure SC where
  rf : Option Addr
  Ex : Str → Hp → Prop
/-- what is kept: of the heap b the part f is frozen, the rest stays what it is, too, but nobody need know it -/
structure Bs where
  b : Hp
  f : Hp
def Kp (C : SC) (B : Bs) (H : Hp) : Prop := ∀ a o, B.b a = some o → C.rf ≠ some a → H a = some o

def KvAll {κ : Type} (K : PySem.W.Frag) (F : Hp) (ds : List (κ × D)) (vs : List (κ × V)) : Prop := ds.map (·.1) = vs.map (·.1) ∧ RpAll K F (ds.map (·.2)) (vs.map (·.2))
def At (C : SC) (B : Bs) (F : Hp) (p : Addr) : Prop := F p = none ∧ (B.b p = none ∨ C.rf = some p)
def SlOk (K : PySem.W.Frag) (C : SC) (B : Bs) (F H : Hp) : Sl → Option V → Prop
  | .emp, _ => True
  | .val d, v => ∃ x, v = some x ∧ Rp K F d x
  | .scr ns, v => ∃ a, v = some (.ref a) ∧ SqL K F a (ns.map V.int)
  | .own ds, v => ∃ p xs, v = some (.ref p) ∧ H p = some (.lst xs) ∧ RpAll K F ds xs ∧ At C B F p ∧ xs.length ≤ sizeLine
  | .dT ds, v => ∃ p xs, v = some (.ref p) ∧ H p = some (.dT xs) ∧ KvAll K F ds xs ∧ At C B F p
  | .dK ds, v => ∃ p xs, v = some (.ref p) ∧ H p = some (.dK xs) ∧ KvAll K F ds xs ∧ At C B F p
def OwnAt (σ : L2.St) (ρ : En) (i : Nat) (p : Addr) : Prop := ∃ s, ρ[i]? = some s ∧ s.isOwn = true ∧ σ[i]? = some (some (.ref p))
/-- no tuple -/
def NT (u : HO) : Prop := ∀ xs, u ≠ .tup xs
structure SR (K : PySem.W.Frag) (C : SC) (B : Bs) (F : Hp) (σ : L2.St) (H : Hp) (ρ : En) : Prop where
  fr : Same F H
  nf : ∀ a u, B.b a = some u → NT u → B.f a = none → F a = none
  kp : Kp C B H
  len : σ.length = ρ.length
  sl : ∀ (i : Nat) (s : Sl) (v : Option V), ρ[i]? = some s → σ[i]? = some v → SlOk K C B F H s v
  ap : ∀ i j p, OwnAt σ ρ i p → OwnAt σ ρ j p → i = j
  rf : ∀ p, C.rf = some p → σ[0]? = some (some (.ref p)) ∧ ∃ ds, ρ[0]? = some (.own ds)

section
variable {K : PySem.W.Frag} {C : SC} {B : Bs} {F F' : Hp} {σ : L2.St} {H H' : Hp} {ρ : En} {p : Addr} {o : HO}
theorem same_upd (h : H p = none) : Same H (upd H p o) := fun b u e => by rw [upd_ne (ne_of_none e h)]; exact e
theorem same_upd2 (s : Same F H) : Same (upd F p o) (upd H p o) := fun b u e => by
  by_cases hb : b = p
  · subst hb; rw [upd_same] at e ⊢; exact e
  · rw [upd_ne hb] at e ⊢; exact s _ _ e
theorem SR.fresh (S : SR K C B F σ H ρ) (h : H p = none) : F p = none ∧ B.b p = none := by
  refine ⟨S.fr.free h, ?_⟩
  cases e : B.b p with
  | none => rfl
  | some u =>
    by_cases r : C.rf = some p
    · obtain ⟨e1, ds, e2⟩ := S.rf p r
      obtain ⟨q, xs, e3, e4, _⟩ := S.sl 0 _ _ e2 e1
      cases e3
      rw [h] at e4; cases e4
    · have := S.kp p u e r
      rw [h] at this; cases this
/-- slots hold when what is not an own list's address is kept -/
theorem SlOk.mono {s : Sl} {v : Option V} (h : SlOk K C B F H s v) (sf : Same F F') (k : ∀ q u, v = some (.ref q) → s.isOwn = true → H q = some u → H' q = some u) (nf : ∀ q, v = some (.ref q) → s.isOwn = true → F q = none → F' q = none) : SlOk K C B F' H' s v := by
  cases s with
  | emp => trivial
  | val d => obtain ⟨x, e, r⟩ := h; exact ⟨x, e, r.mono sf⟩
  | scr ns => obtain ⟨x, e, r⟩ := h; exact ⟨x, e, sf.seq r⟩
  | own ds => obtain ⟨q, xs, e, e1, r, ⟨e2, e3⟩, z⟩ := h; exact ⟨q, xs, e, k _ _ e rfl e1, r.mono sf, ⟨nf _ e rfl e2, e3⟩, z⟩
  | dT ds => obtain ⟨q, xs, e, e1, r, e2, e3⟩ := h; exact ⟨q, xs, e, k _ _ e rfl e1, ⟨r.1, r.2.mono sf⟩, nf _ e rfl e2, e3⟩
  | dK ds => obtain ⟨q, xs, e, e1, r, e2, e3⟩ := h; exact ⟨q, xs, e, k _ _ e rfl e1, ⟨r.1, r.2.mono sf⟩, nf _ e rfl e2, e3⟩
theorem SlOk.there2 {s : Sl} {q : Addr} (h : SlOk K C B F H s (some (.ref q))) (o : s.isOwn = true) : ∃ u, H q = some u ∧ NT u := by
  cases s with
  | emp => cases o
  | val d => cases o
  | scr _ => cases o
  | own ds => obtain ⟨_, xs, e, e1, _⟩ := h; cases e; exact ⟨_, e1, fun _ z => nomatch z⟩
  | dT ds => obtain ⟨_, xs, e, e1, _⟩ := h; cases e; exact ⟨_, e1, fun _ z => nomatch z⟩
  | dK ds => obtain ⟨_, xs, e, e1, _⟩ := h; cases e; exact ⟨_, e1, fun _ z => nomatch z⟩
theorem SlOk.there {s : Sl} {q : Addr} (h : SlOk K C B F H s (some (.ref q))) (o : s.isOwn = true) : ∃ u, H q = some u := (h.there2 o).imp fun _ z => z.1
/-- all is kept, the frozen part grows by what was not there -/
theorem SR.grow (S : SR K C B F σ H ρ) (sh : Same H H') (sf : Same F F') (fr : Same F' H') (nf : ∀ q u, H q = some u → NT u → F q = none → F' q = none) : SR K C B F' σ H' ρ :=
  ⟨fr, fun a u e nt f => by
    by_cases r : C.rf = some a
    · obtain ⟨e1, ds, e2⟩ := S.rf a r
      obtain ⟨q, xs, e3, e4, _, ⟨e5, _⟩, _⟩ := S.sl 0 _ _ e2 e1
      cases e3
      exact nf _ _ e4 (fun _ z => nomatch z) e5
    · exact nf a u (S.kp a u e r) nt (S.nf a u e nt f), fun a o e r => sh _ _ (S.kp a o e r), S.len, fun i s v e1 e2 => (S.sl i s v e1 e2).mono sf (fun _ _ _ _ e => sh _ _ e) (fun q e os n => by
    obtain ⟨u, hu, nt⟩ := SlOk.there2 (q := q) (by rw [← e]; exact S.sl i s v e1 e2) os
    exact nf q u hu nt n), S.ap, S.rf⟩
/-- a new frozen object -/
theorem SR.alloc (S : SR K C B F σ H ρ) (h : H p = none) : SR K C B (upd F p o) σ (upd H p o) ρ :=
  S.grow (same_upd h) (same_upd (S.fresh h).1) (same_upd2 S.fr) fun q u e _ n => by rw [upd_ne (ne_of_none e h)]; exact n
/-- a new object that is not frozen -/
theorem SR.alloc0 (S : SR K C B F σ H ρ) (h : H p = none) : SR K C B F σ (upd H p o) ρ :=
  S.grow (same_upd h) (Same.refl _) (fun a u e => by rw [upd_ne (ne_of_none (S.fr _ _ e) h)]; exact S.fr _ _ e) fun q u _ _ n => n
end

/-! ### readings -/
def RX {α : Type} (C : SC) (B : Bs) (Φ : α → En → Prop) (r : Res (α × En)) : Prop := match r with
  | .ok (a, ρ) => Φ a ρ
  | .exc c => ∀ H', Kp C B H' → C.Ex c H'
  | .bad => False
/-- what follows a value -/
def PD (K : PySem.W.Frag) (C : SC) (B : Bs) (σ : L2.St) (F : Hp) (Q : VK) (d : D) (ρ : En) : Prop := ∀ v F' H', Same F F' → SR K C B F' σ H' ρ → Rp K F' d v → Q v H'
/-- what follows a new list that nobody else holds -/
def PO (K : PySem.W.Frag) (C : SC) (B : Bs) (σ : L2.St) (F : Hp) (Q : VK) (ds : List D) (ρ : En) : Prop :=
  ∀ p xs F' H', Same F F' → SR K C B F' σ H' ρ → F' p = none → B.b p = none → (∀ i, ¬ OwnAt σ ρ i p) → H' p = some (.lst xs) → xs.length ≤ sizeLine → RpAll K F' ds xs → Q (.ref p) H'
def PB (K : PySem.W.Frag) (C : SC) (B : Bs) (σ : L2.St) (F : Hp) (Q : Bool → Hp → Prop) (b : Bool) (ρ : En) : Prop := ∀ F' H', Same F F' → SR K C B F' σ H' ρ → Q b H'
def PAs (K : PySem.W.Frag) (C : SC) (B : Bs) (σ : L2.St) (F : Hp) (Q : List V → Hp → Prop) (ds : List D) (ρ : En) : Prop := ∀ vs F' H', Same F F' → SR K C B F' σ H' ρ → RpAll K F' ds vs → Q vs H'
/-- what a statement comes to -/
inductive Fl where
  | nx
  | rt (d : D)
  /-- a new list, to be the caller's own -/
  | ro (ds : List D)
  | bk
  | ct
def PF (K : PySem.W.Frag) (C : SC) (B : Bs) (F : Hp) (E : Ends) (f : Fl) (ρ : En) : Prop := match f with
  | .nx => ∀ σ' F' H', Same F F' → SR K C B F' σ' H' ρ → E.nx σ' H'
  | .rt d => ∀ v σ' F' H', Same F F' → SR K C B F' σ' H' ρ → Rp K F' d v → E.rt v H'
  | .ro ds => ∀ p xs σ' F' H', Same F F' → SR K C B F' σ' H' ρ → F' p = none → B.b p = none → H' p = some (.lst xs) → xs.length ≤ sizeLine → RpAll K F' ds xs → E.rt (.ref p) H'
  | .bk => ∀ σ' F' H', Same F F' → SR K C B F' σ' H' ρ → E.bk σ' H'
  | .ct => ∀ σ' F' H', Same F F' → SR K C B F' σ' H' ρ → E.ct σ' H'
def tM (K : PySem.W.Frag) (C : SC) (m : M D) : TE := fun σ H Q => ∃ B F ρ, SR K C B F σ H ρ ∧ RX C B (PD K C B σ F Q) (m ρ)
def tO (K : PySem.W.Frag) (C : SC) (m : M (List D)) : TE := fun σ H Q => ∃ B F ρ, SR K C B F σ H ρ ∧ RX C B (PO K C B σ F Q) (m ρ)
def tB (K : PySem.W.Frag) (C : SC) (m : M Bool) : TT := fun σ H Q => ∃ B F ρ, SR K C B F σ H ρ ∧ RX C B (PB K C B σ F Q) (m ρ)
def tA (K : PySem.W.Frag) (C : SC) (m : M (List D)) : TA := fun σ H Q => ∃ B F ρ, SR K C B F σ H ρ ∧ RX C B (PAs K C B σ F Q) (m ρ)
def tS (K : PySem.W.Frag) (C : SC) (m : M Fl) : TS := fun E σ H => ∃ B F ρ, SR K C B F σ H ρ ∧ RX C B (PF K C B F E) (m ρ)

section
variable {K : PySem.W.Frag} {C : SC} {B : Bs} {F F' : Hp} {σ : L2.St} {H H' : Hp} {ρ : En} {Q Q' : VK}
theorem RX.imp {α : Type} {Φ Ψ : α → En → Prop} {r : Res (α × En)} (h : RX C B Φ r) (k : ∀ a ρ, Φ a ρ → Ψ a ρ) : RX C B Ψ r := by
  cases r with
  | ok p => exact k _ _ h
  | exc c => exact h
  | bad => exact h
theorem RX.bind {α β : Type} {Φ : β → En → Prop} {m : M α} {f : α → M β} (h : RX C B Φ ((m >>= f) ρ)) : RX C B (fun a ρ1 => RX C B Φ (f a ρ1)) (m ρ) := by
  have h' : RX C B Φ ((m ρ).bind fun p => f p.1 p.2) := h
  cases e : m ρ with
  | ok p => rw [e] at h'; exact h'
  | exc c => rw [e] at h'; exact h'
  | bad => rw [e] at h'; exact h'
theorem PD.mono (s : Same F F') {d : D} (h : PD K C B σ F Q d ρ) : PD K C B σ F' Q d ρ := fun v F2 H2 s2 => h v F2 H2 (s.trans s2)
theorem PO.mono (s : Same F F') {d : List D} (h : PO K C B σ F Q d ρ) : PO K C B σ F' Q d ρ := fun v xs F2 H2 s2 => h v xs F2 H2 (s.trans s2)
theorem PB.mono (s : Same F F') {d : Bool} {Q : Bool → Hp → Prop} (h : PB K C B σ F Q d ρ) : PB K C B σ F' Q d ρ := fun F2 H2 s2 => h F2 H2 (s.trans s2)
theorem PAs.mono (s : Same F F') {d : List D} {Q : List V → Hp → Prop} (h : PAs K C B σ F Q d ρ) : PAs K C B σ F' Q d ρ := fun v F2 H2 s2 => h v F2 H2 (s.trans s2)
theorem PF.mono (s : Same F F') {f : Fl} {E : Ends} (h : PF K C B F E f ρ) : PF K C B F' E f ρ := by
  cases f with
  | nx => exact fun σ F2 H2 s2 => h σ F2 H2 (s.trans s2)
  | rt d => exact fun v σ F2 H2 s2 => h v σ F2 H2 (s.trans s2)
  | ro ds => exact fun p xs σ F2 H2 s2 => h p xs σ F2 H2 (s.trans s2)
  | bk => exact fun σ F2 H2 s2 => h σ F2 H2 (s.trans s2)
  | ct => exact fun σ F2 H2 s2 => h σ F2 H2 (s.trans s2)
theorem tM.of (S : SR K C B F σ H ρ) {m : M D} {Φ : D → En → Prop} (h : RX C B Φ (m ρ)) (k : ∀ d ρ1, Φ d ρ1 → PD K C B σ F Q d ρ1) : tM K C m σ H Q := ⟨B, F, ρ, S, h.imp k⟩
theorem tO.of (S : SR K C B F σ H ρ) {m : M (List D)} {Φ : List D → En → Prop} (h : RX C B Φ (m ρ)) (k : ∀ d ρ1, Φ d ρ1 → PO K C B σ F Q d ρ1) : tO K C m σ H Q := ⟨B, F, ρ, S, h.imp k⟩
theorem tB.of (S : SR K C B F σ H ρ) {m : M Bool} {Q : Bool → Hp → Prop} {Φ : Bool → En → Prop} (h : RX C B Φ (m ρ)) (k : ∀ d ρ1, Φ d ρ1 → PB K C B σ F Q d ρ1) : tB K C m σ H Q := ⟨B, F, ρ, S, h.imp k⟩
theorem tA.of (S : SR K C B F σ H ρ) {m : M (List D)} {Q : List V → Hp → Prop} {Φ : List D → En → Prop} (h : RX C B Φ (m ρ)) (k : ∀ d ρ1, Φ d ρ1 → PAs K C B σ F Q d ρ1) : tA K C m σ H Q := ⟨B, F, ρ, S, h.imp k⟩
theorem tS.of (S : SR K C B F σ H ρ) {m : M Fl} {E : Ends} {Φ : Fl → En → Prop} (h : RX C B Φ (m ρ)) (k : ∀ d ρ1, Φ d ρ1 → PF K C B F E d ρ1) : tS K C m E σ H := ⟨B, F, ρ, S, h.imp k⟩
end
section
variable {X : Cx} {e : Expr} {s : Stmt} {ss : List Stmt}
theorem pe_imp {t t' : TE} (h : PE X e t) (k : ∀ σ H Q, t' σ H Q → t σ H Q) : PE X e t' := ⟨fun pins s σ H Q I q => h.run pins s σ H Q I (k σ H Q q)⟩
theorem pt_imp {t t' : TT} (h : PT X e t) (k : ∀ σ H Q, t' σ H Q → t σ H Q) : PT X e t' := ⟨fun pins s σ H Q I q => h.run pins s σ H Q I (k σ H Q q)⟩
theorem pw_imp {t t' : TT} (h : PW X e t) (k : ∀ σ H Q, t' σ H Q → t σ H Q) : PW X e t' := ⟨fun wh pins s σ H Q I q => h.run wh pins s σ H Q I (k σ H Q q)⟩
theorem pa_imp {es : List Expr} {t t' : TA} (h : PA X es t) (k : ∀ σ H Q, t' σ H Q → t σ H Q) : PA X es t' := ⟨fun pos pins s σ H Q I q => h.run pos pins s σ H Q I (k σ H Q q)⟩
theorem ps_imp {t t' : TS} (h : PS X s t) (k : ∀ E σ H, t' E σ H → t E σ H) : PS X s t' := ⟨fun pins s σ H E I q => h.run pins s σ H E I (k E σ H q)⟩
theorem pss_imp {t t' : TS} (h : PSs X ss t) (k : ∀ E σ H, t' E σ H → t E σ H) : PSs X ss t' := ⟨fun pins s σ H E I q => h.run pins s σ H E I (k E σ H q)⟩
end

/-! ### one operation on values -/
/-- a value as it is at the moment: frozen, or a list that is still somebody's own -/
def RpV (K : PySem.W.Frag) (F H : Hp) (d : D) (v : V) : Prop := Rp K F d v ∨ ∃ p xs ds, d = .list ds ∧ v = .ref p ∧ H p = some (.lst xs) ∧ xs.length ≤ sizeLine ∧ RpAll K F ds xs
/-- an operand: what is done first, then how it is looked at when the operation comes -/
def LateOk (K : PySem.W.Frag) (C : SC) (B : Bs) (σ : L2.St) (F : Hp) (l : M D) (v : V) : Prop := ∀ F2 H2 ρ2, Same F F2 → SR K C B F2 σ H2 ρ2 → match l ρ2 with
  | .ok (d, ρ') => ρ' = ρ2 ∧ RpV K F2 H2 d v
  | .exc _ => False
  | .bad => True
theorem LateOk.mono {K : PySem.W.Frag} {C : SC} {B : Bs} {σ : L2.St} {F F' : Hp} {l : M D} {v : V} (h : LateOk K C B σ F l v) (s : Same F F') : LateOk K C B σ F' l v := fun F2 H2 ρ2 s2 => h F2 H2 ρ2 (s.trans s2)
def PL (K : PySem.W.Frag) (C : SC) (B : Bs) (σ : L2.St) (F : Hp) (Q : VK) (l : M D) (ρ : En) : Prop := ∀ v F' H', Same F F' → SR K C B F' σ H' ρ → LateOk K C B σ F' l v → Q v H'
def tL (K : PySem.W.Frag) (C : SC) (m : M (M D)) : TE := fun σ H Q => ∃ B F ρ, SR K C B F σ H ρ ∧ RX C B (PL K C B σ F Q) (m ρ)
theorem tL.of {K : PySem.W.Frag} {C : SC} {B : Bs} {F : Hp} {σ : L2.St} {H : Hp} {ρ : En} {Q : VK} (S : SR K C B F σ H ρ) {m : M (M D)} {Φ : M D → En → Prop} (h : RX C B Φ (m ρ)) (k : ∀ d ρ1, Φ d ρ1 → PL K C B σ F Q d ρ1) : tL K C m σ H Q := ⟨B, F, ρ, S, h.imp k⟩
def eVl (m : M D) : M (M D) := m >>= fun d => pure (pure d)
/-- a name's value, as it is -/
def eAt (i : Nat) : M D := fun ρ => match ρ[i]? with
  | some (.val d) => .ok (d, ρ)
  | some (.own ds) => .ok (.list ds, ρ)
  | _ => .bad
def eNm (i : Nat) : M (M D) := fun ρ => match ρ[i]? with
  | some (.val _) => .ok (eAt i, ρ)
  | some (.own _) => .ok (eAt i, ρ)
  | _ => .bad
section
variable {X : Cx} {C : SC} {B : Bs} {a b c : Expr} {ma mb mc : M (M D)} {pos : Pos}
/-- what a step on values asks: from what is wanted of the result to the reading r -/
def Op1 (X : Cx) (C : SC) (g : D → Res D) (r : V → Hp → VK → Prop) : Prop := ∀ B F σ H ρ x d Q, SR X.K C B F σ H ρ → RpV X.K F H d x → RX C B (PD X.K C B σ F Q) (M.lift (g d) ρ) → r x H Q
def Op2 (X : Cx) (C : SC) (g : D → D → Res D) (r : R2) : Prop := ∀ B F σ H ρ x y d e Q, SR X.K C B F σ H ρ → RpV X.K F H d x → RpV X.K F H e y → RX C B (PD X.K C B σ F Q) (M.lift (g d e) ρ) → r x y H Q
def Op1O (X : Cx) (C : SC) (g : D → Res (List D)) (r : V → Hp → VK → Prop) : Prop := ∀ B F σ H ρ x d Q, SR X.K C B F σ H ρ → RpV X.K F H d x → RX C B (PO X.K C B σ F Q) (M.lift (g d) ρ) → r x H Q
def Op2O (X : Cx) (C : SC) (g : D → D → Res (List D)) (r : R2) : Prop := ∀ B F σ H ρ x y d e Q, SR X.K C B F σ H ρ → RpV X.K F H d x → RpV X.K F H e y → RX C B (PO X.K C B σ F Q) (M.lift (g d e) ρ) → r x y H Q
def OpD (X : Cx) (C : SC) (f : Value → Value → Sem Value) (g : D → D → Res D) : Prop := ∃ r, OpR X f r ∧ Op2 X C g r
def OpO (X : Cx) (C : SC) (f : Value → Value → Sem Value) (g : D → D → Res (List D)) : Prop := ∃ r, OpR X f r ∧ Op2O X C g r
def e1 {α : Type} (g : D → Res α) (ma : M (M D)) : M α := ma >>= fun x => x >>= fun x => M.lift (g x)
def e2 {α : Type} (g : D → D → Res α) (ma mb : M (M D)) : M α := ma >>= fun x => mb >>= fun y => x >>= fun x => y >>= fun y => M.lift (g x y)
theorem late_step {α : Type} {σ : L2.St} {F : Hp} {H : Hp} {ρ : En} {l : M D} {v : V} {Φ : α → En → Prop} {f : D → M α} (S : SR X.K C B F σ H ρ) (L : LateOk X.K C B σ F l v) (h : RX C B Φ ((l >>= f) ρ)) :
    ∃ d, RpV X.K F H d v ∧ RX C B Φ (f d ρ) := by
  have q := L F H ρ (Same.refl _) S
  have h' := h.bind
  cases e : l ρ with
  | ok p =>
    obtain ⟨d, ρ'⟩ := p
    rw [e] at q h'
    obtain ⟨rfl, r⟩ := q
    exact ⟨d, r, h'⟩
  | exc c => rw [e] at q; exact q.elim
  | bad => rw [e] at h'; exact h'.elim
theorem e2_read {g : D → D → Res D} {r : R2} (k : Op2 X C g r) {σ : L2.St} {H : Hp} {Q : VK} (h : tM X.K C (e2 g ma mb) σ H Q) : tOp r (tL X.K C ma) (tL X.K C mb) σ H Q := by
  obtain ⟨B, F, ρ, S, h⟩ := h
  refine tL.of S h.bind fun la ρ1 h1 v F1 H1 s1 S1 r1 => ?_
  refine tL.of S1 h1.bind fun lb ρ2 h2 u F2 H2 s2 S2 r2 => ?_
  obtain ⟨d, rd, h3⟩ := late_step S2 (r1.mono s2) h2
  obtain ⟨e, re, h4⟩ := late_step S2 r2 h3
  exact k B F2 σ H2 ρ2 v u d e Q S2 rd re (h4.imp fun _ _ q => q.mono (s1.trans s2))
theorem e2O_read {g : D → D → Res (List D)} {r : R2} (k : Op2O X C g r) {σ : L2.St} {H : Hp} {Q : VK} (h : tO X.K C (e2 g ma mb) σ H Q) : tOp r (tL X.K C ma) (tL X.K C mb) σ H Q := by
  obtain ⟨B, F, ρ, S, h⟩ := h
  refine tL.of S h.bind fun la ρ1 h1 v F1 H1 s1 S1 r1 => ?_
  refine tL.of S1 h1.bind fun lb ρ2 h2 u F2 H2 s2 S2 r2 => ?_
  obtain ⟨d, rd, h3⟩ := late_step S2 (r1.mono s2) h2
  obtain ⟨e, re, h4⟩ := late_step S2 r2 h3
  exact k B F2 σ H2 ρ2 v u d e Q S2 rd re (h4.imp fun _ _ q => q.mono (s1.trans s2))
theorem e1_read {g : D → Res D} {r : V → Hp → VK → Prop} (k : Op1 X C g r) {σ : L2.St} {H : Hp} {Q : VK} (h : tM X.K C (e1 g ma) σ H Q) : tL X.K C ma σ H (fun x H1 => r x H1 Q) := by
  obtain ⟨B, F, ρ, S, h⟩ := h
  refine tL.of S h.bind fun la ρ1 h1 v F1 H1 s1 S1 r1 => ?_
  obtain ⟨d, rd, h3⟩ := late_step S1 r1 h1
  exact k B F1 σ H1 ρ1 v d Q S1 rd (h3.imp fun _ _ q => q.mono s1)
theorem e1O_read {g : D → Res (List D)} {r : V → Hp → VK → Prop} (k : Op1O X C g r) {σ : L2.St} {H : Hp} {Q : VK} (h : tO X.K C (e1 g ma) σ H Q) : tL X.K C ma σ H (fun x H1 => r x H1 Q) := by
  obtain ⟨B, F, ρ, S, h⟩ := h
  refine tL.of S h.bind fun la ρ1 h1 v F1 H1 s1 S1 r1 => ?_
  obtain ⟨d, rd, h3⟩ := late_step S1 r1 h1
  exact k B F1 σ H1 ρ1 v d Q S1 rd (h3.imp fun _ _ q => q.mono s1)
theorem m_op {op : Operator} {g : D → D → Res D} (o : OpD X C (binaryOp op) g) (ha : PE X a (tL X.K C ma)) (hb : PE X b (tL X.K C mb)) : PE X (.BinOp a op b pos) (tM X.K C (e2 g ma mb)) :=
  let ⟨_, o1, k⟩ := o
  pe_imp (pe_op o1 ha hb) fun _ _ _ h => e2_read k h
theorem m_opO {op : Operator} {g : D → D → Res (List D)} (o : OpO X C (binaryOp op) g) (ha : PE X a (tL X.K C ma)) (hb : PE X b (tL X.K C mb)) : PE X (.BinOp a op b pos) (tO X.K C (e2 g ma mb)) :=
  let ⟨_, o1, k⟩ := o
  pe_imp (pe_op o1 ha hb) fun _ _ _ h => e2O_read k h
theorem m_cmp {op : CmpOp} {g : D → D → Res D} (o : OpD X C (compareOp op) g) (ha : PE X a (tL X.K C ma)) (hb : PE X b (tL X.K C mb)) (hm : behindInMarks op b = false) : PE X (.Compare a [op] [b] pos) (tM X.K C (e2 g ma mb)) :=
  let ⟨_, o1, k⟩ := o
  pe_imp (pe_cmpR o1 ha hb hm) fun _ _ _ h => e2_read k h
/-- a value as an operand -/
theorem m_vl {m : M D} (h : PE X a (tM X.K C m)) : PE X a (tL X.K C (eVl m)) := pe_imp h fun σ H Q q => by
  obtain ⟨B, F, ρ, S, q⟩ := q
  refine tM.of S q.bind fun d ρ1 h1 v F1 H1 s1 S1 r1 => ?_
  exact h1 v F1 H1 s1 S1 fun F2 H2 ρ2 s2 S2 => ⟨rfl, .inl (r1.mono s2)⟩
/-- a name as an operand -/
theorem m_nm (i : Nat) {x : Str} (hN : X.N[i]? = some x := by rfl) (hv : Vis X.env.scope x := by first | exact Or.inl rfl | exact Or.inr (Or.inl rfl) | exact Or.inr (Or.inr rfl)) (hd : (x == ("__debug__" : Str)) = false := by decide)
    (hcd : (x == ("__classdict__" : Str)) = false := by decide) : PE X (.Name x pos) (tL X.K C (eNm i)) := pe_imp (pe_var hN hv hd hcd) fun σ H Q q => by
  obtain ⟨B, F, ρ, S, q⟩ := q
  have key : ∀ v, σ[i]? = some (some v) → LateOk X.K C B σ F (eAt i) v := fun v ev F2 H2 ρ2 s2 S2 => by
    unfold eAt
    cases e2 : ρ2[i]? with
    | none => trivial
    | some s =>
      cases s with
      | val d =>
        obtain ⟨x, ex, r⟩ := S2.sl i _ _ e2 ev
        cases ex
        exact ⟨rfl, .inl r⟩
      | own ds =>
        obtain ⟨p, xs, ex, eh, r, _, z⟩ := S2.sl i _ _ e2 ev
        cases ex
        exact ⟨rfl, .inr ⟨p, xs, ds, rfl, rfl, eh, z, r⟩⟩
      | emp => trivial
      | scr _ => trivial
      | dT _ => trivial
      | dK _ => trivial
  have there : ∀ s, ρ[i]? = some s → ∃ v, σ[i]? = some v := fun s e => by
    have hlt := (List.getElem?_eq_some_iff.mp e).1
    have hl := S.len
    exact ⟨σ[i]'(by omega), by simp⟩
  cases e : ρ[i]? with
  | none => unfold eNm at q; rw [e] at q; exact q.elim
  | some s =>
    obtain ⟨v, ev⟩ := there s e
    unfold eNm at q
    rw [e] at q
    cases s with
    | val d =>
      obtain ⟨x, ex, r⟩ := S.sl i _ _ e ev
      subst ex
      exact ⟨x, ev, q x F H (Same.refl _) S (key x ev)⟩
    | own ds =>
      obtain ⟨p, xs, ex, _⟩ := S.sl i _ _ e ev
      subst ex
      exact ⟨_, ev, q _ F H (Same.refl _) S (key _ ev)⟩
    | emp => exact q.elim
    | scr _ => exact q.elim
    | dT _ => exact q.elim
    | dK _ => exact q.elim
end
end VS

set_option Elab.async false
set_option linter.all false
set_option maxRecDepth 100000
set_option maxHeartbeats 4000000
namespace VS
open PySem PySem.Spec PyProof.Rows L2

/-! ### from one form to another -/
section
variable {X : Cx} {C : SC} {B : Bs} {a b c : Expr} {pos : Pos}
theorem pd_now {K : PySem.W.Frag} {C : SC} {B : Bs} {F : Hp} {σ : L2.St} {H : Hp} {ρ : En} {Q : VK} {r : Res D} {d : D} (S : SR K C B F σ H ρ) (h : RX C B (PD K C B σ F Q) (M.lift r ρ)) (e : r = .ok d) {v : V} (q : Rp K F d v) : Q v H := by
  subst e
  exact h v F H (Same.refl _) S q
theorem pd_new {K : PySem.W.Frag} {C : SC} {B : Bs} {F : Hp} {σ : L2.St} {H : Hp} {ρ : En} {Q : VK} {r : Res D} {d : D} {p : Addr} {o : HO} (S : SR K C B F σ H ρ) (h : RX C B (PD K C B σ F Q) (M.lift r ρ)) (e : r = .ok d) (hp : H p = none) (q : Rp K (upd F p o) d (.ref p)) : Q (.ref p) (upd H p o) := by
  subst e
  exact h _ _ _ (same_upd (S.fresh hp).1) (S.alloc hp) q
theorem pd_bl {K : PySem.W.Frag} {C : SC} {B : Bs} {F : Hp} {σ : L2.St} {H : Hp} {ρ : En} {Q : VK} {r : Res D} {b : Bool} (S : SR K C B F σ H ρ) (h : RX C B (PD K C B σ F Q) (M.lift r ρ)) (e : r = .ok (.bool b)) : Q (.bl b) H := pd_now S h e rfl
theorem pd_in {K : PySem.W.Frag} {C : SC} {B : Bs} {F : Hp} {σ : L2.St} {H : Hp} {ρ : En} {Q : VK} {r : Res D} {b : Int} (S : SR K C B F σ H ρ) (h : RX C B (PD K C B σ F Q) (M.lift r ρ)) (e : r = .ok (.int b)) : Q (.int b) H := pd_now S h e rfl
theorem own_there {K : PySem.W.Frag} {C : SC} {B : Bs} {F : Hp} {σ : L2.St} {H : Hp} {ρ : En} (S : SR K C B F σ H ρ) {i : Nat} {p : Addr} (h : OwnAt σ ρ i p) : ∃ u, H p = some u := by
  obtain ⟨s, e1, o, e2⟩ := h
  exact SlOk.there (S.sl i s _ e1 e2) o
theorem po_new {K : PySem.W.Frag} {C : SC} {B : Bs} {F : Hp} {σ : L2.St} {H : Hp} {ρ : En} {Q : VK} {r : Res (List D)} {ds : List D} {p : Addr} {xs : List V} (S : SR K C B F σ H ρ) (h : RX C B (PO K C B σ F Q) (M.lift r ρ)) (e : r = .ok ds) (hp : H p = none) (z : xs.length ≤ sizeLine) (q : RpAll K F ds xs) : Q (.ref p) (upd H p (.lst xs)) := by
  subst e
  refine h p xs F _ (Same.refl _) (S.alloc0 hp) (S.fresh hp).1 (S.fresh hp).2 (fun i o => ?_) upd_same z q
  obtain ⟨u, hu⟩ := own_there S o
  rw [hp] at hu; cases hu
/-- an own new list is frozen -/
theorem SR.settle {K : PySem.W.Frag} {C : SC} {B : Bs} {F : Hp} {σ : L2.St} {H : Hp} {ρ : En} (S : SR K C B F σ H ρ) {p : Addr} {o : HO} (hp : H p = some o) (fp : F p = none) (bp : B.b p = none) (no : ∀ i, ¬ OwnAt σ ρ i p) : SR K C B (upd F p o) σ H ρ := by
  have sf : Same F (upd F p o) := same_upd fp
  refine ⟨fun a u e => ?_, fun a u e nt f => by rw [upd_ne (ne_of_none e bp)]; exact S.nf a u e nt f, S.kp, S.len, fun i s v e1 e2 => (S.sl i s v e1 e2).mono sf (fun _ _ _ _ e => e) (fun q e os n => ?_), S.ap, S.rf⟩
  · by_cases ha : a = p
    · subst ha; rw [upd_same] at e; rw [← e]; exact hp
    · rw [upd_ne ha] at e; exact S.fr _ _ e
  · rw [upd_ne]
    · exact n
    · rintro rfl
      exact no i ⟨s, e1, os, by rw [e2, e]⟩
def eL (m : M (List D)) : M D := m >>= fun ds => pure (.list ds)
theorem m_frz {m : M (List D)} (h : PE X a (tO X.K C m)) : PE X a (tM X.K C (eL m)) := pe_imp h fun σ H Q q => by
  obtain ⟨B, F, ρ, S, q⟩ := q
  refine tO.of S q.bind fun ds ρ1 h1 p xs F1 H1 s1 S1 fp bp no hp z r => ?_
  have sf : Same F1 (upd F1 p (.lst xs)) := same_upd fp
  exact h1 (.ref p) (upd F1 p (.lst xs)) H1 (s1.trans sf) (S1.settle hp fp bp no) ⟨p, xs, rfl, .inl upd_same, z, r.mono sf⟩

/-! ### constants and names -/
theorem m_int {i : Int} {j pos} : PE X (.Constant (.int i) j pos) (tM X.K C (pure (.int i))) := pe_imp pe_int fun σ H Q ⟨B, F, ρ, S, q⟩ => q _ F H (Same.refl _) S rfl
theorem m_bl {i : Bool} {j pos} : PE X (.Constant (.bool i) j pos) (tM X.K C (pure (.bool i))) := pe_imp pe_bl fun σ H Q ⟨B, F, ρ, S, q⟩ => q _ F H (Same.refl _) S rfl
theorem m_non {j pos} : PE X (.Constant .none j pos) (tM X.K C (pure .none)) := pe_imp pe_non fun σ H Q ⟨B, F, ρ, S, q⟩ => q _ F H (Same.refl _) S rfl
theorem m_str {i : Str} {j pos} : PE X (.Constant (.str i) j pos) (tM X.K C (pure (.str i))) := pe_imp pe_str fun σ H Q ⟨B, F, ρ, S, q⟩ => q _ F H (Same.refl _) S rfl
/-- a module's constant -/
theorem m_glb {x : Str} {v : V} {d : D} {u : Value} (hg : Gl X x) (hm : X.mg x = some u) (r : RelV v u) (hd : ∀ F, Rp X.K F d v) (hdb : (x == ("__debug__" : Str)) = false := by decide) : PE X (.Name x pos) (tM X.K C (pure d)) :=
  pe_imp (pe_glob hg hm r hdb) fun σ H Q ⟨B, F, ρ, S, q⟩ => q _ F H (Same.refl _) S (hd F)
/-- a name's value, frozen -/
def eVar (i : Nat) : M D := fun ρ => match ρ[i]? with
  | some (.val d) => .ok (d, ρ)
  | some (.own ds) => .ok (.list ds, ρ.set i (.val (.list ds)))
  | _ => .bad
theorem own_set_val {σ : L2.St} {ρ : En} {i j : Nat} {p : Addr} {d : D} (h : OwnAt σ (ρ.set i (.val d)) j p) : j ≠ i ∧ OwnAt σ ρ j p := by
  obtain ⟨s, e1, o, e2⟩ := h
  by_cases hj : j = i
  · subst hj
    by_cases hl : j < ρ.length
    · rw [List.getElem?_set_self hl] at e1; cases e1; cases o
    · rw [List.getElem?_eq_none (by simpa using hl)] at e1; cases e1
  · rw [List.getElem?_set_ne (Ne.symm hj)] at e1
    exact ⟨hj, s, e1, o, e2⟩
theorem SR.freeze {K : PySem.W.Frag} {C : SC} {B : Bs} {F : Hp} {σ : L2.St} {H : Hp} {ρ : En} (S : SR K C B F σ H ρ) {i : Nat} {ds : List D} (e : ρ[i]? = some (.own ds)) (ni : C.rf = none ∨ i ≠ 0) :
    ∃ p xs, σ[i]? = some (some (.ref p)) ∧ SR K C B (upd F p (.lst xs)) σ H (ρ.set i (.val (.list ds))) ∧ Same F (upd F p (.lst xs)) ∧ Rp K (upd F p (.lst xs)) (.list ds) (.ref p) := by
  have hlt := (List.getElem?_eq_some_iff.mp e).1
  have hl := S.len
  have ev : ∃ v, σ[i]? = some v := ⟨σ[i]'(by omega), by simp⟩
  obtain ⟨v, ev⟩ := ev
  obtain ⟨p, xs, ex, hp, r, ⟨fp, bp⟩, z⟩ := S.sl i _ _ e ev
  subst ex
  have sf : Same F (upd F p (.lst xs)) := same_upd fp
  have rp : Rp K (upd F p (.lst xs)) (.list ds) (.ref p) := ⟨p, xs, rfl, .inl upd_same, z, r.mono sf⟩
  have oi : OwnAt σ ρ i p := ⟨_, e, rfl, ev⟩
  have bn : B.b p = none := by
    rcases bp with q | q
    · exact q
    · obtain ⟨h1, ds', h2⟩ := S.rf p q
      have i0 := S.ap i 0 p oi ⟨_, h2, rfl, h1⟩
      rcases ni with n | n
      · rw [n] at q; cases q
      · exact absurd i0 n
  refine ⟨p, xs, ev, ⟨fun a u e => ?_, fun a u e nt f => by rw [upd_ne (ne_of_none e bn)]; exact S.nf a u e nt f, S.kp, by simpa using S.len, fun j s w e1 e2 => ?_, fun j k q h1 h2 => S.ap j k q (own_set_val h1).2 (own_set_val h2).2, fun q hq => ?_⟩, sf, rp⟩
  · by_cases ha : a = p
    · subst ha; rw [upd_same] at e; rw [← e]; exact hp
    · rw [upd_ne ha] at e; exact S.fr _ _ e
  · by_cases hj : j = i
    · subst hj
      rw [List.getElem?_set_self hlt] at e1
      cases e1
      rw [ev] at e2; cases e2
      exact ⟨_, rfl, rp⟩
    · rw [List.getElem?_set_ne (Ne.symm hj)] at e1
      refine (S.sl j s w e1 e2).mono sf (fun _ _ _ _ e => e) (fun q eq os n => ?_)
      rw [upd_ne]
      · exact n
      · rintro rfl
        exact hj (S.ap j i q ⟨s, e1, os, by rw [e2, eq]⟩ oi)
  · obtain ⟨h1, ds', h2⟩ := S.rf q hq
    refine ⟨h1, ds', ?_⟩
    rcases ni with n | n
    · rw [n] at hq; cases hq
    · rw [List.getElem?_set_ne n]; exact h2
theorem m_var (i : Nat) {x : Str} (ni : C.rf = none ∨ i ≠ 0) (hN : X.N[i]? = some x := by rfl) (hv : Vis X.env.scope x := by first | exact Or.inl rfl | exact Or.inr (Or.inl rfl) | exact Or.inr (Or.inr rfl)) (hd : (x == ("__debug__" : Str)) = false := by decide)
    (hcd : (x == ("__classdict__" : Str)) = false := by decide) : PE X (.Name x pos) (tM X.K C (eVar i)) := pe_imp (pe_var hN hv hd hcd) fun σ H Q q => by
  obtain ⟨B, F, ρ, S, q⟩ := q
  unfold eVar at q
  cases e : ρ[i]? with
  | none => rw [e] at q; exact q.elim
  | some s =>
    rw [e] at q
    cases s with
    | val d =>
      have hlt := (List.getElem?_eq_some_iff.mp e).1
      have hl := S.len
      have ev : σ[i]? = some (σ[i]'(by omega)) := by simp
      obtain ⟨x, ex, r⟩ := S.sl i _ _ e ev
      rw [ex] at ev
      exact ⟨x, ev, q x F H (Same.refl _) S r⟩
    | own ds =>
      obtain ⟨p, xs, ev, S', sf, r⟩ := S.freeze e ni
      exact ⟨_, ev, q _ _ H sf S' r⟩
    | emp => exact q.elim
    | scr _ => exact q.elim
    | dT _ => exact q.elim
    | dK _ => exact q.elim
end

/-! ### whole numbers -/
theorem rpv_int {K : PySem.W.Frag} {F H : Hp} {i : Int} {v : V} (h : RpV K F H (.int i) v) : v = .int i := by
  rcases h with h | ⟨p, xs, ds, e, _⟩
  · exact h
  · cases e
theorem rpv_bool {K : PySem.W.Frag} {F H : Hp} {i : Bool} {v : V} (h : RpV K F H (.bool i) v) : v = .bl i := by
  rcases h with h | ⟨p, xs, ds, e, _⟩
  · exact h
  · cases e
theorem rpv_none {K : PySem.W.Frag} {F H : Hp} {v : V} (h : RpV K F H .none v) : v = .non := by
  rcases h with h | ⟨p, xs, ds, e, _⟩
  · exact h
  · cases e
theorem rpv_str {K : PySem.W.Frag} {F H : Hp} {i : Str} {v : V} (h : RpV K F H (.str i) v) : v = .str i := by
  rcases h with h | ⟨p, xs, ds, e, _⟩
  · exact h
  · cases e
theorem rpv_tup {K : PySem.W.Frag} {F H : Hp} {ds : List D} {v : V} (s : Same F H) (h : RpV K F H (.tuple ds) v) : ∃ a xs, v = .ref a ∧ F a = some (.tup xs) ∧ H a = some (.tup xs) ∧ xs.length ≤ sizeLine ∧ RpAll K F ds xs := by
  rcases h with h | ⟨p, xs, ds, e, _⟩
  · obtain ⟨a, xs, e, q, z, r⟩ := h
    exact ⟨a, xs, e, q, s _ _ q, z, r⟩
  · cases e
theorem rpv_lst {K : PySem.W.Frag} {F H : Hp} {ds : List D} {v : V} (s : Same F H) (h : RpV K F H (.list ds) v) : ∃ a xs, v = .ref a ∧ Rd H a (.lst xs) ∧ xs.length ≤ sizeLine ∧ RpAll K F ds xs := by
  rcases h with h | ⟨p, xs, ds, e, e2, h1, z, r⟩
  · obtain ⟨a, xs, e, q, z, r⟩ := h
    exact ⟨a, xs, e, rd_same s q, z, r⟩
  · cases e
    exact ⟨p, xs, e2, .inl h1, z, r⟩
section
variable {X : Cx} {C : SC} {B : Bs}
/-- two whole numbers -/
def gI (g : Int → Int → Res D) : D → D → Res D
  | .int i, .int j => g i j
  | _, _ => .bad
theorem RX.bad_elim {α : Type} {Φ : α → En → Prop} {ρ : En} {r : Res α} (h : RX C B Φ (M.lift r ρ)) (e : r = .bad) : False := by
  subst e
  exact h
theorem op_ints {f : Value → Value → Sem Value} {P : Int → Int → Prop} [∀ i j, Decidable (P i j)] {g : Int → Int → V} {gd : Int → Int → D} (o : OpR X f (rI P g)) (hg : ∀ F i j, Rp X.K F (gd i j) (g i j)) :
    OpD X C f (gI fun i j => if P i j then .ok (gd i j) else .bad) := ⟨_, o, fun B F σ H ρ x y d e Q S rx ry h => by
  cases d <;> try exact (RX.bad_elim h rfl).elim
  cases e <;> try exact (RX.bad_elim h rfl).elim
  rename_i i j
  by_cases p : P i j
  · exact ⟨i, j, rpv_int rx, rpv_int ry, p, pd_now S h (by simp [gI, p]) (hg F i j)⟩
  · exact (RX.bad_elim h (by simp [gI, p])).elim⟩
theorem op_ints0 {f : Value → Value → Sem Value} {g : Int → Int → V} {gd : Int → Int → D} (o : OpR X f (rI0 g)) (hg : ∀ F i j, Rp X.K F (gd i j) (g i j)) :
    OpD X C f (gI fun i j => .ok (gd i j)) := ⟨_, o, fun B F σ H ρ x y d e Q S rx ry h => by
  cases d <;> try exact (RX.bad_elim h rfl).elim
  cases e <;> try exact (RX.bad_elim h rfl).elim
  rename_i i j
  exact ⟨i, j, rpv_int rx, rpv_int ry, pd_now S h rfl (hg F i j)⟩⟩
def dSub := gI fun i j => .ok (.int (i - j))
theorem o_sub : OpD X C (binaryOp .Sub) dSub := op_ints0 op_sub fun _ _ _ => rfl
instance (i j : Int) : Decidable (CMul i j) := by unfold CMul; infer_instance
instance (i j : Int) : Decidable (CDivN i j) := by unfold CDivN; infer_instance
instance (i j : Int) : Decidable (CPow i j) := by unfold CPow; infer_instance
def dMod := gI fun i j => if j ≠ 0 then .ok (.int (i.fmod j)) else .bad
theorem o_mod : OpD X C (binaryOp .Mod) dMod := op_ints op_modN fun _ _ _ => rfl
def dDiv := gI fun i j => if CDivN i j then .ok (.int (i.fdiv j)) else .bad
theorem o_div : OpD X C (binaryOp .FloorDiv) dDiv := op_ints op_fdivN fun _ _ _ => rfl
def dPow := gI fun i j => if CPow i j then .ok (.int (i ^ j.toNat)) else .bad
theorem o_pow : OpD X C (binaryOp .Pow) dPow := op_ints op_pow fun _ _ _ => rfl
def dShl := gI fun i j => if CPow i j then .ok (.int (i * 2 ^ j.toNat)) else .bad
theorem o_shl : OpD X C (binaryOp .LShift) dShl := op_ints op_shl fun _ _ _ => rfl
def dShr := gI fun i j => if 0 ≤ j then .ok (.int (i / 2 ^ j.toNat)) else .bad
theorem o_shr : OpD X C (binaryOp .RShift) dShr := op_ints op_shr fun _ _ _ => rfl
def dAnd := gI fun i j => .ok (.int (Builtin.bitAnd i j))
theorem o_and : OpD X C (binaryOp .BitAnd) dAnd := op_ints0 op_and fun _ _ _ => rfl
def dMulI := gI fun i j => if CMul i j then .ok (.int (i * j)) else .bad
theorem o_mulI : OpD X C (binaryOp .Mult) dMulI := op_ints op_mul fun _ _ _ => rfl
def dNeg : D → Res D
  | .int i => .ok (.int (-i))
  | _ => .bad
theorem m_neg {a : Expr} {ma : M (M D)} {pos : Pos} (ha : PE X a (tL X.K C ma)) : PE X (.UnaryOp .USub a pos) (tM X.K C (e1 dNeg ma)) :=
  pe_imp (pe_un un_neg ha) fun σ H Q h => e1_read (r := rU fun i => .int (-i)) (fun B F σ H ρ x d Q S rx h => by
    cases d <;> try exact (RX.bad_elim h rfl).elim
    exact ⟨_, rpv_int rx, pd_now S h rfl rfl⟩) h
/-- + -/
def dAdd : D → D → Res D
  | .int i, .int j => .ok (.int (i + j))
  | .str x, .str y => if x.length + y.length ≤ sizeLine then .ok (.str (x ++ y)) else .bad
  | .tuple xs, .tuple ys => if xs.length + ys.length ≤ sizeLine then .ok (.tuple (xs ++ ys)) else .bad
  | _, _ => .bad
theorem o_add : OpD X C (binaryOp .Add) dAdd := ⟨_, op_add.or (op_add_str.or op_catA), fun B F σ H ρ x y d e Q S rx ry h => by
  cases d with
  | int i =>
    cases e <;> try exact (RX.bad_elim h rfl).elim
    exact .inl ⟨_, _, rpv_int rx, rpv_int ry, pd_now S h rfl rfl⟩
  | str i =>
    cases e <;> try exact (RX.bad_elim h rfl).elim
    rename_i j
    by_cases z : i.length + j.length ≤ sizeLine
    · exact .inr (.inl ⟨_, _, rpv_str rx, rpv_str ry, z, pd_now (d := .str (i ++ j)) S h (by simp only [dAdd, if_pos z]) rfl⟩)
    · exact (RX.bad_elim h (by simp only [dAdd, if_neg z])).elim
  | tuple ds =>
    cases e <;> try exact (RX.bad_elim h rfl).elim
    rename_i es
    by_cases z : ds.length + es.length ≤ sizeLine
    · obtain ⟨p, xs, rfl, fp, hp, zx, r1⟩ := rpv_tup S.fr rx
      obtain ⟨q, ys, rfl, fq, hq, zy, r2⟩ := rpv_tup S.fr ry
      have l1 := r1.len
      have l2 := r2.len
      have er : dAdd (.tuple ds) (.tuple es) = .ok (.tuple (ds ++ es)) := by simp only [dAdd, if_pos z]
      refine .inr (.inr ⟨p, q, xs, ys, rfl, rfl, .of hp, .of hq, by omega, fun e => ?_, fun e1 e => ?_, fun e1 e2 p' np => ?_⟩)
      · subst e
        cases ds with
        | nil => exact pd_now S h er ⟨q, ys, rfl, fq, zy, r2⟩
        | cons d ds => simp at l1
      · subst e
        cases es with
        | nil => exact pd_now S h er ⟨p, xs, rfl, fp, zx, by simpa using r1⟩
        | cons d ds => simp at l2
      · exact pd_new S h er np ⟨p', xs ++ ys, rfl, upd_same, by rw [List.length_append]; omega, (r1.append r2).mono (same_upd (S.fresh np).1)⟩
    · exact (RX.bad_elim h (by simp only [dAdd, if_neg z])).elim
  | _ => exact (RX.bad_elim h rfl).elim⟩
end
end VS

set_option Elab.async false
set_option linter.all false
set_option maxRecDepth 100000
set_option maxHeartbeats 4000000
namespace VS
open PySem PySem.Spec PyProof.Rows L2
/-! ### equality -/
section
variable {K : PySem.W.Frag} {F H : Hp}
mutual
theorem rp_dp (s : Same F H) : ∀ {d : D} {v : V}, Rp K F d v → d.canLay0 = true → Dp K H v d
  | .none, _, h, _ => by cases (show _ = V.non from h); exact .non
  | .bool b, _, h, _ => by cases (show _ = V.bl b from h); exact .bl b
  | .int b, _, h, _ => by cases (show _ = V.int b from h); exact .int b
  | .str b, _, h, _ => by cases (show _ = V.str b from h); exact .str b
  | .list ds, v, h, l => by
    obtain ⟨a, xs, e, q, z, r⟩ := (show ∃ a xs, v = .ref a ∧ Rd F a (.lst xs) ∧ xs.length ≤ sizeLine ∧ RpAll K F ds xs from h)
    subst e
    exact .lst (.inl (rd_same s q)) (rp_dpAll s r (by simpa [PyData.canLay0] using l))
  | .tuple ds, v, h, l => by
    obtain ⟨a, xs, e, q, z, r⟩ := (show ∃ a xs, v = .ref a ∧ F a = some (.tup xs) ∧ xs.length ≤ sizeLine ∧ RpAll K F ds xs from h)
    subst e
    exact .tup (.of (s _ _ q)) (rp_dpAll s r (by simpa [PyData.canLay0] using l))
  | .dict kvs, v, h, l => by simp [PyData.canLay0] at l
theorem rp_dpAll (s : Same F H) : ∀ {ds : List D} {vs : List V}, RpAll K F ds vs → PyData.canLayAll0 ds = true → DpAll K H vs ds
  | [], vs, h, _ => by cases (show vs = [] from h); exact .nil
  | d :: ds, vs, h, l => by
    obtain ⟨y, ys, e, r, q⟩ := (show ∃ y ys, vs = y :: ys ∧ Rp K F d y ∧ RpAll K F ds ys from h)
    subst e
    have l' : d.canLay0 = true ∧ PyData.canLayAll0 ds = true := by simpa [PyData.canLayAll0] using l
    exact .cons (rp_dp s r l'.1) (rp_dpAll s q l'.2)
end
theorem rpv_dp (s : Same F H) {d : D} {v : V} (h : RpV K F H d v) (l : d.canLay0 = true) : Dp K H v d := by
  rcases h with h | ⟨p, xs, ds, e, e2, h1, z, r⟩
  · exact rp_dp s h l
  · subst e e2
    exact .lst (.of h1) (rp_dpAll s r (by simpa [PyData.canLay0] using l))
end
section
variable {X : Cx} {C : SC} {B : Bs} {a b c : Expr} {pos : Pos} {ma mb mc : M (M D)}
def dEq (d e : D) : Res D := if (SeqAt.shaped d && SeqAt.shaped e) = true then .ok (.bool (PyData.eqv d e)) else .bad
def dNe (d e : D) : Res D := if (SeqAt.shaped d && SeqAt.shaped e) = true then .ok (.bool (!PyData.eqv d e)) else .bad
theorem o_eq (hu : X.A.units + 64 < cLine) : OpD X C (compareOp .Eq) dEq := ⟨_, op_eqD hu, fun B F σ H ρ x y d e Q S rx ry h => by
  by_cases p : (SeqAt.shaped d && SeqAt.shaped e) = true
  · obtain ⟨p1, p2⟩ := Bool.and_eq_true_iff.mp p
    exact ⟨d, e, rpv_dp S.fr rx (SeqAt.canLay_of_shaped p1), rpv_dp S.fr ry (SeqAt.canLay_of_shaped p2), p1, p2, pd_bl S h (by unfold dEq; rw [if_pos p])⟩
  · exact (RX.bad_elim h (by unfold dEq; rw [if_neg p])).elim⟩
theorem o_ne (hu : X.A.units + 64 < cLine) : OpD X C (compareOp .NotEq) dNe := ⟨_, op_neD hu, fun B F σ H ρ x y d e Q S rx ry h => by
  by_cases p : (SeqAt.shaped d && SeqAt.shaped e) = true
  · obtain ⟨p1, p2⟩ := Bool.and_eq_true_iff.mp p
    exact ⟨d, e, rpv_dp S.fr rx (SeqAt.canLay_of_shaped p1), rpv_dp S.fr ry (SeqAt.canLay_of_shaped p2), p1, p2, pd_bl S h (by unfold dNe; rw [if_pos p])⟩
  · exact (RX.bad_elim h (by unfold dNe; rw [if_neg p])).elim⟩
/-- the whole numbers of a list -/
def intsOf : List D → Option (List Int)
  | [] => some []
  | .int i :: r => (intsOf r).map (i :: ·)
  | _ => none
theorem intsOf_eq : ∀ {ds : List D} {ns : List Int}, intsOf ds = some ns → ds = ns.map PyData.int
  | [], ns, h => by cases h; rfl
  | d :: ds, ns, h => by
    cases d <;> simp [intsOf] at h
    obtain ⟨m, h1, rfl⟩ := h
    simp [intsOf_eq h1]
theorem intsOf_map : ∀ (ns : List Int), intsOf (ns.map PyData.int) = some ns
  | [] => rfl
  | n :: ns => by simp [intsOf, intsOf_map ns]
/-- an order of whole numbers and of tuples of such -/
def gO (p : Int → Int → Bool) (q : List Int → List Int → Bool) : D → D → Res D
  | .int i, .int j => .ok (.bool (p i j))
  | .tuple xs, .tuple ys => match intsOf xs, intsOf ys with
    | some ns, some ms => .ok (.bool (q ns ms))
    | _, _ => .bad
  | _, _ => .bad
def rOrd (K : PySem.W.Frag) (q : List Int → List Int → Bool) : R2 := fun x y H Q => ∃ a b ns ms, x = .ref a ∧ y = .ref b ∧ SqT K H a (ns.map V.int) ∧ SqT K H b (ms.map V.int) ∧ Q (.bl (q ns ms)) H
theorem o_ord {op : CmpOp} {p : Int → Int → Bool} {q : List Int → List Int → Bool} (o1 : OpR X (compareOp op) (rI0 fun i j => .bl (p i j))) (o2 : OpR X (compareOp op) (rOrd X.K q)) : OpD X C (compareOp op) (gO p q) := ⟨_, o1.or o2, fun B F σ H ρ x y d e Q S rx ry h => by
  cases d with
  | int i =>
    cases e <;> try exact (RX.bad_elim h rfl).elim
    exact .inl ⟨_, _, rpv_int rx, rpv_int ry, pd_now S h rfl rfl⟩
  | tuple ds =>
    cases e <;> try exact (RX.bad_elim h rfl).elim
    rename_i es
    obtain ⟨a, xs, rfl, fp, hp, zx, r1⟩ := rpv_tup S.fr rx
    obtain ⟨b, ys, rfl, fq, hq, zy, r2⟩ := rpv_tup S.fr ry
    cases e1 : intsOf ds with
    | none => exact (RX.bad_elim h (by simp only [gO, e1])).elim
    | some ns =>
      cases e2 : intsOf es with
      | none => exact (RX.bad_elim h (by simp only [gO, e1, e2])).elim
      | some ms =>
        have z1 := intsOf_eq e1
        have z2 := intsOf_eq e2
        subst z1 z2
        have y1 := r1.ints
        have y2 := r2.ints
        subst y1 y2
        exact .inr ⟨a, b, ns, ms, rfl, rfl, .of hp, .of hq, pd_bl S h (by simp only [gO, e1, e2])⟩
  | _ => exact (RX.bad_elim h rfl).elim⟩
def dLt := gO (fun i j => decide (i < j)) HT.lexLt
theorem o_lt (hu : X.A.units < cLine) : OpD X C (compareOp .Lt) dLt := o_ord op_lt (op_ltT hu)
def lexLe (ns ms : List Int) : Bool := Ob.lexAt (fun j => decide (ns.getD j 0 = ms.getD j 0)) (fun j => decide (ns.getD j 0 ≤ ms.getD j 0)) (decide (ns.length ≤ ms.length)) 0 (min ns.length ms.length)
def dLe := gO (fun i j => decide (i ≤ j)) lexLe
theorem o_le (hu : X.A.units < cLine) : OpD X C (compareOp .LtE) dLe := o_ord op_le (op_leT hu)
def lexGt (ns ms : List Int) : Bool := Ob.lexAt (fun j => decide (ns.getD j 0 = ms.getD j 0)) (fun j => decide (ms.getD j 0 < ns.getD j 0)) (decide (ms.length < ns.length)) 0 (min ns.length ms.length)
def lexGe (ns ms : List Int) : Bool := Ob.lexAt (fun j => decide (ns.getD j 0 = ms.getD j 0)) (fun j => decide (ms.getD j 0 ≤ ns.getD j 0)) (decide (ms.length ≤ ns.length)) 0 (min ns.length ms.length)
def dGt := gI fun i j => .ok (.bool (decide (j < i)))
theorem o_gt : OpD X C (compareOp .Gt) dGt := op_ints0 op_gt fun _ _ _ => rfl
def dGe := gI fun i j => .ok (.bool (decide (j ≤ i)))
theorem o_ge : OpD X C (compareOp .GtE) dGe := op_ints0 op_ge fun _ _ _ => rfl
/-- is True, is False -/
def dIsB : D → D → Res D
  | .bool a, .bool b => .ok (.bool (decide (a = b)))
  | _, _ => .bad
theorem o_isB : OpD X C (compareOp .Is) dIsB := ⟨_, op_isBl, fun B F σ H ρ x y d e Q S rx ry h => by
  cases d <;> try exact (RX.bad_elim h rfl).elim
  cases e <;> try exact (RX.bad_elim h rfl).elim
  exact ⟨_, _, rpv_bool rx, rpv_bool ry, pd_now S h rfl rfl⟩⟩
def dNotB : D → D → Res D
  | .bool a, .bool b => .ok (.bool (!decide (a = b)))
  | _, _ => .bad
theorem o_notB : OpD X C (compareOp .IsNot) dNotB := ⟨_, op_notBl, fun B F σ H ρ x y d e Q S rx ry h => by
  cases d <;> try exact (RX.bad_elim h rfl).elim
  cases e <;> try exact (RX.bad_elim h rfl).elim
  exact ⟨_, _, rpv_bool rx, rpv_bool ry, pd_now S h rfl rfl⟩⟩
/-- is None -/
def isNon : D → Bool
  | .none => true
  | _ => false
theorem rpv_isNon {F H : Hp} {d : D} {v : V} (h : RpV X.K F H d v) : decide (v = .non) = isNon d := by
  rcases h with h | ⟨p, xs, ds, e, e2, _⟩
  · cases d with
    | none => cases (show v = V.non from h); rfl
    | bool b => cases (show v = V.bl b from h); rfl
    | int b => cases (show v = V.int b from h); rfl
    | str b => cases (show v = V.str b from h); rfl
    | list ds => obtain ⟨a, xs, rfl, _⟩ := (show ∃ a xs, v = .ref a ∧ Rd F a (.lst xs) ∧ xs.length ≤ sizeLine ∧ RpAll X.K F ds xs from h); rfl
    | tuple ds => obtain ⟨a, xs, rfl, _⟩ := (show ∃ a xs, v = .ref a ∧ F a = some (.tup xs) ∧ xs.length ≤ sizeLine ∧ RpAll X.K F ds xs from h); rfl
    | dict kvs => obtain ⟨a, xs, rfl, _⟩ := (show ∃ a kv, v = .ref a ∧ F a = some (.dK kv) ∧ RpKv X.K F kvs kv from h); rfl
  · subst e e2; rfl
def dIsN (d : D) : Res D := .ok (.bool (isNon d))
def dNotN (d : D) : Res D := .ok (.bool (!isNon d))
theorem m_isN {j pos'} (ha : PE X a (tL X.K C ma)) : PE X (.Compare a [.Is] [.Constant .none j pos'] pos) (tM X.K C (e1 dIsN ma)) :=
  pe_imp (pe_cmp (pc_isN ha)) fun σ H Q h => e1_read (r := fun x H Q => Q (.bl (decide (x = .non))) H) (fun B F σ H ρ x d Q S rx h => by
    show Q (.bl (decide (x = .non))) H
    rw [rpv_isNon rx]
    exact pd_now S h rfl rfl) h
theorem m_notN {j pos'} (ha : PE X a (tL X.K C ma)) : PE X (.Compare a [.IsNot] [.Constant .none j pos'] pos) (tM X.K C (e1 dNotN ma)) :=
  pe_imp (pe_cmp (pc_notN ha)) fun σ H Q h => e1_read (r := fun x H Q => Q (.bl (!decide (x = .non))) H) (fun B F σ H ρ x d Q S rx h => by
    show Q (.bl (!decide (x = .non))) H
    rw [rpv_isNon rx]
    exact pd_now S h rfl rfl) h
/-- x in xs, of data -/
def inD (x : D) : List D → Bool
  | [] => false
  | y :: ys => PyData.eqv y x || inD x ys

/-! ### tests -/
def asB : D → Res Bool
  | .bool b => .ok b
  | _ => .bad
def eB (m : M D) : M Bool := m >>= fun d => M.lift (asB d)
theorem eB_read {m : M D} {σ : L2.St} {H : Hp} {Q : Bool → Hp → Prop} (h : tB X.K C (eB m) σ H Q) : tM X.K C m σ H (fun x H' => ∃ k, x = .bl k ∧ Q k H') := by
  obtain ⟨B, F, ρ, S, h⟩ := h
  refine tM.of S h.bind fun d ρ1 h1 v F1 H1 s1 S1 r1 => ?_
  cases d <;> try exact (RX.bad_elim h1 rfl).elim
  exact ⟨_, r1, h1 F1 H1 s1 S1⟩
theorem mt_cmp {op : CmpOp} {g : D → D → Res D} (o : OpD X C (compareOp op) g) (ha : PE X a (tL X.K C ma)) (hb : PE X b (tL X.K C mb)) (hm : behindInMarks op b = false) : PT X (.Compare a [op] [b] pos) (tB X.K C (eB (e2 g ma mb))) :=
  let ⟨_, o1, k⟩ := o
  pt_imp (pt_cmpR o1 ha hb hm) fun _ _ _ h => e2_read k (eB_read h)
theorem mt_val {m : M D} (h : PE X a (tM X.K C m)) (he : ∀ whole, isTrue a X.env whole = (do let v ← whole; standAt a.pos; holding [v] (truthy v)) := by intro _; rfl) : PT X a (tB X.K C (eB m)) :=
  pt_imp (pt_val h he) fun _ _ _ q => eB_read q
def eAnd (a b : M Bool) : M Bool := a >>= fun c => if c = true then b else pure false
def eOr (a b : M Bool) : M Bool := a >>= fun c => if c = true then pure true else b
def eNot (a : M Bool) : M Bool := a >>= fun c => pure (!c)
variable {rest : List Expr} {ta tb' : M Bool}
theorem mt_and (ha : PT X a (tB X.K C ta)) (hb : PW X (.BoolOp .And (b :: rest) pos) (tB X.K C tb')) : PW X (.BoolOp .And (a :: b :: rest) pos) (tB X.K C (eAnd ta tb')) :=
  pw_imp (pw_and ha hb) fun σ H Q q => by
    obtain ⟨B, F, ρ, S, h⟩ := q
    refine tB.of S h.bind fun d ρ1 h1 F1 H1 s1 S1 => ?_
    cases d with
    | true => exact tB.of S1 h1 fun _ _ q => q.mono s1
    | false => exact h1 F1 H1 s1 S1
theorem mt_or (ha : PT X a (tB X.K C ta)) (hb : PW X (.BoolOp .Or (b :: rest) pos) (tB X.K C tb')) : PW X (.BoolOp .Or (a :: b :: rest) pos) (tB X.K C (eOr ta tb')) :=
  pw_imp (pw_or ha hb) fun σ H Q q => by
    obtain ⟨B, F, ρ, S, h⟩ := q
    refine tB.of S h.bind fun d ρ1 h1 F1 H1 s1 S1 => ?_
    cases d with
    | true => exact h1 F1 H1 s1 S1
    | false => exact tB.of S1 h1 fun _ _ q => q.mono s1
theorem mt_not (ha : PT X a (tB X.K C ta)) : PT X (.UnaryOp .Not a pos) (tB X.K C (eNot ta)) :=
  pt_imp (pt_not ha) fun σ H Q q => by
    obtain ⟨B, F, ρ, S, h⟩ := q
    exact tB.of S h.bind fun d ρ1 h1 F1 H1 s1 S1 => h1 F1 H1 s1 S1
/-! .. as values -/
variable {va vb vc : M D}
def eAndV (a b : M D) : M D := eB a >>= fun c => if c = true then b else pure (.bool false)
def eOrV (a b : M D) : M D := eB a >>= fun c => if c = true then pure (.bool true) else b
theorem eB_then {α : Type} {Φ : α → En → Prop} {ρ : En} {m : M D} {f : Bool → M α} (h : RX C B Φ ((eB m >>= f) ρ)) : RX C B (fun d ρ1 => ∃ c, d = .bool c ∧ RX C B Φ (f c ρ1)) (m ρ) := by
  have h2 := (h.bind (m := eB m))
  have h3 := h2.bind (m := m)
  refine h3.imp fun d ρ1 q => ?_
  cases d <;> try exact (RX.bad_elim q rfl).elim
  exact ⟨_, rfl, q⟩
theorem m_and (ha : PE X a (tM X.K C va)) (hb : PE X (.BoolOp .And (b :: rest) pos) (tM X.K C vb)) : PE X (.BoolOp .And (a :: b :: rest) pos) (tM X.K C (eAndV va vb)) :=
  pe_imp (pe_and ha hb) fun σ H Q q => by
    obtain ⟨B, F, ρ, S, h⟩ := q
    refine tM.of S (eB_then h) fun d ρ1 h1 v F1 H1 s1 S1 r1 => ?_
    obtain ⟨c, rfl, h2⟩ := h1
    refine ⟨c, r1, ?_⟩
    cases c with
    | true => exact tM.of S1 h2 fun _ _ q => q.mono s1
    | false => exact h2 _ F1 H1 s1 S1 rfl
theorem m_or (ha : PE X a (tM X.K C va)) (hb : PE X (.BoolOp .Or (b :: rest) pos) (tM X.K C vb)) : PE X (.BoolOp .Or (a :: b :: rest) pos) (tM X.K C (eOrV va vb)) :=
  pe_imp (pe_or ha hb) fun σ H Q q => by
    obtain ⟨B, F, ρ, S, h⟩ := q
    refine tM.of S (eB_then h) fun d ρ1 h1 v F1 H1 s1 S1 r1 => ?_
    obtain ⟨c, rfl, h2⟩ := h1
    refine ⟨c, r1, ?_⟩
    cases c with
    | true => exact h2 _ F1 H1 s1 S1 rfl
    | false => exact tM.of S1 h2 fun _ _ q => q.mono s1
theorem m_one {op} {m : M D} (h : PE X a (tM X.K C m)) : PE X (.BoolOp op [a] pos) (tM X.K C m) := pe_one h
def eNotV (a : M D) : M D := eB a >>= fun c => pure (.bool (!c))
theorem m_not (ha : PE X a (tM X.K C va)) : PE X (.UnaryOp .Not a pos) (tM X.K C (eNotV va)) :=
  pe_imp (pe_not ha) fun σ H Q q => by
    obtain ⟨B, F, ρ, S, h⟩ := q
    refine tM.of S (eB_then h) fun d ρ1 h1 v F1 H1 s1 S1 r1 => ?_
    obtain ⟨c, rfl, h2⟩ := h1
    exact ⟨c, r1, h2 _ F1 H1 s1 S1 rfl⟩
def eIf (t : M Bool) (a b : M D) : M D := t >>= fun c => if c = true then a else b
theorem m_if (hc : PT X c (tB X.K C ta)) (ha : PE X a (tM X.K C va)) (hb : PE X b (tM X.K C vb)) : PE X (.IfExp c a b pos) (tM X.K C (eIf ta va vb)) :=
  pe_imp (pe_ifExp hc ha hb) fun σ H Q q => by
    obtain ⟨B, F, ρ, S, h⟩ := q
    refine tB.of S h.bind fun d ρ1 h1 F1 H1 s1 S1 => ?_
    cases d with
    | true => exact tM.of S1 h1 fun _ _ q => q.mono s1
    | false => exact tM.of S1 h1 fun _ _ q => q.mono s1
/-- a op1 b op2 c -/
def e3 (g g' : D → D → Res D) (ma mb mc : M (M D)) : M D := ma >>= fun x => mb >>= fun y => (x >>= fun x => y >>= fun y => M.lift (g x y) >>= fun d => M.lift (asB d)) >>= fun k => if k = true then mc >>= fun z => y >>= fun y => z >>= fun z => M.lift (g' y z) else pure (.bool false)
theorem lift_bad {α : Type} {Φ : α → En → Prop} {ρ : En} {r : Res D} {f : D → M α} (h : RX C B Φ ((M.lift r >>= f) ρ)) (k : r = .bad) : False := by
  subst k
  exact h
theorem e3_read {g g' : D → D → Res D} {r r' : R2} (k1 : Op2 X C g r) (k2 : Op2 X C g' r') {σ : L2.St} {H : Hp} {Q : VK} (h : tM X.K C (e3 g g' ma mb mc) σ H Q) : tChain r r' (tL X.K C ma) (tL X.K C mb) (tL X.K C mc) σ H Q := by
  obtain ⟨B, F, ρ, S, h⟩ := h
  refine tL.of S h.bind fun la ρ1 h1 v F1 H1 s1 S1 r1 => ?_
  refine tL.of S1 h1.bind fun lb ρ2 h2 u F2 H2 s2 S2 r2 => ?_
  have h3 := h2.bind (m := la >>= fun x => lb >>= fun y => M.lift (g x y) >>= fun d => M.lift (asB d))
  obtain ⟨d, rd, h4⟩ := late_step S2 (r1.mono s2) h3
  obtain ⟨e, re, h5⟩ := late_step S2 r2 h4
  refine k1 B F2 σ H2 ρ2 v u d e _ S2 rd re ?_
  refine (h5.bind (m := M.lift (g d e))).imp fun x ρ3 q3 z F3 H3 s3 S3 r3 => ?_
  cases x <;> try exact (RX.bad_elim q3 rfl).elim
  rename_i k
  refine ⟨k, r3, ?_⟩
  have q4 : RX C B (PD X.K C B σ F Q) ((if k = true then mc >>= fun z => lb >>= fun y => z >>= fun z => M.lift (g' y z) else pure (.bool false)) ρ3) := q3
  cases k with
  | false => exact q4 _ F3 H3 (s1.trans (s2.trans s3)) S3 rfl
  | true =>
    rw [if_pos rfl] at q4 ⊢
    refine tL.of S3 q4.bind fun lc ρ4 h6 w F4 H4 s4 S4 r4 => ?_
    obtain ⟨e', re', h7⟩ := late_step S4 (r2.mono (s3.trans s4)) h6
    obtain ⟨d', rd', h8⟩ := late_step S4 r4 h7
    exact k2 B F4 σ H4 ρ4 u w e' d' Q S4 re' rd' (h8.imp fun _ _ q => q.mono ((s1.trans s2).trans (s3.trans s4)))
theorem m_chain {op op' : CmpOp} {g g' : D → D → Res D} (o : OpD X C (compareOp op) g) (o' : OpD X C (compareOp op') g') (ha : PE X a (tL X.K C ma)) (hb : PE X b (tL X.K C mb)) (hc : PE X c (tL X.K C mc))
    (hm : lastMarks [op, op'] [b, c] = false := by with_unfolding_all rfl) : PE X (.Compare a [op, op'] [b, c] pos) (tM X.K C (e3 g g' ma mb mc)) :=
  let ⟨_, o1, k⟩ := o
  let ⟨_, o2, k'⟩ := o'
  pe_imp (pe_chain o1 o2 ha hb hc hm) fun _ _ _ h => e3_read k k' h
theorem mt_chain {op op' : CmpOp} {g g' : D → D → Res D} (o : OpD X C (compareOp op) g) (o' : OpD X C (compareOp op') g') (ha : PE X a (tL X.K C ma)) (hb : PE X b (tL X.K C mb)) (hc : PE X c (tL X.K C mc))
    (hm : lastMarks [op, op'] [b, c] = false := by with_unfolding_all rfl) : PT X (.Compare a [op, op'] [b, c] pos) (tB X.K C (eB (e3 g g' ma mb mc))) :=
  let ⟨_, o1, k⟩ := o
  let ⟨_, o2, k'⟩ := o'
  pt_imp (pt_chain o1 o2 ha hb hc hm) fun _ _ _ h => e3_read k k' (eB_read h)
end
end VS

set_option Elab.async false
set_option linter.all false
set_option maxRecDepth 100000
set_option maxHeartbeats 4000000
namespace L2
open PySem PySem.Spec PyProof.Rows
section
variable {X : Cx} {pins : List (Addr × Obj)} {σ : L2.St} {H : Hp} {s : Shared} {l : Addr} {xs : List V}
theorem Inv.lstR (I : Inv X pins σ H s) (hH : Rd H l (.lst xs)) : xs.length ≤ sizeLine ∧ ∃ (its : List Value) (n : Nat), Vals xs its ∧ xs.length = its.length ∧ s.heap.get? l = some { cls := .type "list", data := .seq its.toArray n } := by
  obtain ⟨z, its, n, r, e⟩ := (show ObjOk X.prog X.w H s.heap l (.lst xs) from hH.ok I.hok)
  exact ⟨z, its, n, r, r.length, e⟩
def rCatR : R2 := fun x y H Q => ∃ l b xs zs, x = .ref l ∧ y = .ref b ∧ Rd H l (.lst xs) ∧ Rd H b (.lst zs) ∧ xs.length + zs.length ≤ sizeLine ∧ ∀ p, H p = none → Q (.ref p) (upd H p (.lst (xs ++ zs)))
theorem op_catR : OpR X (binaryOp .Add) rCatR := by
  intro pins s σ H x y v u Q I rx ry h
  obtain ⟨l, b, xs, zs, rfl, rfl, hH, hB, hz, q⟩ := h
  cases rx
  cases ry
  obtain ⟨z, its, n, r, hl, e⟩ := I.lstR hH
  obtain ⟨z2, its2, n2, r2, hl2, e2⟩ := I.lstR hB
  refine PySem.P.add_list e e2 ?_ (by rw [List.size_toArray, List.size_toArray]; omega)
  have ea : its.toArray ++ its2.toArray = (its ++ its2).toArray := by simp
  rw [ea]
  exact ⟨.ref _, _, I.lnew (t' := s.toks) (r.append r2) (by rw [List.length_append]; omega), rfl, q _ I.fresh⟩
def rRepR : R2 := fun x y H Q => ∃ l k xs, x = .ref l ∧ y = .int k ∧ Rd H l (.lst xs) ∧ -(2 ^ 63) ≤ k ∧ k < 2 ^ 63 ∧ xs.length * k.toNat ≤ sizeLine ∧
  ∀ p, H p = none → Q (.ref p) (upd H p (.lst (List.replicate k.toNat xs).flatten))
theorem op_repR : OpR X (binaryOp .Mult) rRepR := by
  intro pins s σ H x y v u Q I rx ry h
  obtain ⟨l, k, xs, rfl, rfl, hH, h1, h2, hz, q⟩ := h
  cases rx
  obtain ⟨t, rfl⟩ := ry
  obtain ⟨z, its, n, r, hl, e⟩ := I.lstR hH
  have hlen : its.toArray.size * k.toNat ≤ sizeLine := by rw [List.size_toArray, ← hl]; exact hz
  have hcap : ¬ its.toArray.size * k.toNat > (2 ^ 63 - 1) / 8 := by
    have : (sizeLine : Nat) ≤ (2 ^ 63 - 1) / 8 := by decide
    omega
  have hfit : ¬ (!Builtin.List.listFitsIndex k) = true := by
    rw [fitsIndex_both h1 h2]
    exact Bool.false_ne_true
  have hlong : ¬ Builtin.List.listTooLong (its.toArray.size * k.toNat) = true := by
    rw [notLongL hlen]
    exact Bool.false_ne_true
  have hnew : List.foldl (fun x1 x2 => x1 ++ x2) #[] (List.replicate (if its.toArray.isEmpty = true then 0 else k.toNat) its.toArray) = (List.replicate k.toNat its).flatten.toArray := by
    have f0 : ∀ m : Nat, List.foldl (fun x1 x2 => x1 ++ x2) #[] (List.replicate m its.toArray) = (List.replicate m its).flatten.toArray := fun m => by
      have := foldl_rep its m []
      rw [List.nil_append] at this
      exact this
    rw [f0]
    cases its with
    | nil => simp
    | cons a r' => rw [if_neg (by simp)]
  refine wpAny_binaryOp_repeat_ref (T := "list") (U := "int") (by decide) ⟨_, e, rfl⟩ (fun s' => typeIs_int s' k t) noFill_list_mul F.fills_int_mul F.slot_int_rmul repeat_list F.slot_int_index.lookup
    (call_meets F.slot_int_rmul (typeIs_int s k t) F.entry_int_rmul (F.args_int_rmul_2 _ _) (int___rmul___int_list k t l its.toArray n)
      ⟨e, rfl, ⟨_, e, rfl⟩, call_meets F.slot_list_mul ⟨_, e, rfl⟩ F.entry_list_mul (F.args_list_mul_2 _ _) (AutoListH.list___mul___list_int_3 l its.toArray n k t hfit hcap hlong) ⟨e, ?_⟩⟩)
  rw [hnew]
  exact ⟨.ref _, _, I.lnew (t' := s.toks) (r.rep k.toNat) (by rw [PyProof.Rows.lm_len_rep_flat, Nat.mul_comm]; exact hz), rfl, q _ I.fresh⟩
def rExtendR : V → List V → Hp → VK → Prop := fun x vs H Q => ∃ l b xs zs, x = .ref l ∧ vs = [.ref b] ∧ H l = some (.lst xs) ∧ Rd H b (.lst zs) ∧ xs.length + zs.length ≤ sizeLine ∧ Q .non (upd H l (.lst (xs ++ zs)))
theorem mt_extendR : MtM X "list.extend" rExtendR := by
  intro pins s σ H x vs v us Q I rx rv h
  obtain ⟨l, b, xs, zs, rfl, rfl, hH, hB, hz, q⟩ := h
  cases rx
  obtain ⟨u, rfl, ru⟩ := rv.one
  cases ru
  obtain ⟨z, its, n, r, hl, e⟩ := I.lstM hH
  obtain ⟨z2, its2, n2, r2, hl2, e2⟩ := I.lstR hB
  have hsz : its.toArray.size + its2.toArray.size ≤ sizeLine := by rw [List.size_toArray, List.size_toArray]; omega
  have hlong : ¬ (!its.toArray.isEmpty && Builtin.List.listTooLong (its.toArray.size + its2.toArray.size)) = true := by
    rw [notLongL hsz, Bool.and_false]
    exact Bool.false_ne_true
  refine call_meets F.slot_list_extend ⟨_, e, rfl⟩ F.entry_list_extend (F.args_list_extend_2 _ _)
    (AutoSeq1.list_extend_list_list_0 l its.toArray n b its2.toArray n2 hlong (by rw [List.size_toArray]; omega) (by omega)) ⟨e, e2, ?_⟩
  refine ⟨.non, _, I.lset (its' := its ++ its2) hH e (by simp) (r.append r2) ?_, rfl, q⟩
  rw [List.length_append]
  omega
end
end L2

namespace VS
open PySem PySem.Spec PyProof.Rows L2
section
variable {X : Cx} {C : SC} {B : Bs} {a b c : Expr} {pos p2 : Pos} {ma mb mc : M (M D)}
/-! ### list + list, list * int -/
def gCat : D → D → Res (List D)
  | .list xs, .list ys => if xs.length + ys.length ≤ sizeLine then .ok (xs ++ ys) else .bad
  | _, _ => .bad
def gRep : D → D → Res (List D)
  | .list xs, .int k => if -(2 ^ 63) ≤ k ∧ k < 2 ^ 63 ∧ xs.length * k.toNat ≤ sizeLine then .ok (List.replicate k.toNat xs).flatten else .bad
  | _, _ => .bad
theorem RpAll.rep {K : PySem.W.Frag} {F : Hp} {ds : List D} {vs : List V} (h : RpAll K F ds vs) : ∀ k : Nat, RpAll K F (List.replicate k ds).flatten (List.replicate k vs).flatten
  | 0 => rfl
  | k + 1 => by simp only [List.replicate_succ, List.flatten_cons]; exact h.append (h.rep k)
theorem o_catO : OpO X C (binaryOp .Add) gCat := ⟨_, op_catR, fun B F σ H ρ x y d e Q S rx ry h => by
  cases d <;> try exact (RX.bad_elim h rfl).elim
  cases e <;> try exact (RX.bad_elim h rfl).elim
  rename_i ds es
  by_cases z : ds.length + es.length ≤ sizeLine
  · obtain ⟨p, xs, rfl, fp, zx, r1⟩ := rpv_lst S.fr rx
    obtain ⟨q, ys, rfl, fq, zy, r2⟩ := rpv_lst S.fr ry
    have l1 := r1.len
    have l2 := r2.len
    exact ⟨p, q, xs, ys, rfl, rfl, fp, fq, by omega, fun p' np => po_new (ds := ds ++ es) S h (by simp only [gCat, if_pos z]) np (by rw [List.length_append]; omega) (r1.append r2)⟩
  · exact (RX.bad_elim h (by simp only [gCat, if_neg z])).elim⟩
theorem rep_len {α : Type} (xs : List α) (k : Nat) : (List.replicate k xs).flatten.length = xs.length * k := by
  rw [PyProof.Rows.lm_len_rep_flat, Nat.mul_comm]
theorem o_repO : OpO X C (binaryOp .Mult) gRep := ⟨_, op_repR, fun B F σ H ρ x y d e Q S rx ry h => by
  cases d <;> try exact (RX.bad_elim h rfl).elim
  cases e <;> try exact (RX.bad_elim h rfl).elim
  rename_i ds k
  by_cases z : -(2 ^ 63) ≤ k ∧ k < 2 ^ 63 ∧ ds.length * k.toNat ≤ sizeLine
  · obtain ⟨p, xs, rfl, fp, zx, r1⟩ := rpv_lst S.fr rx
    have l1 := r1.len
    exact ⟨p, k, xs, rfl, rpv_int ry, fp, z.1, z.2.1, by rw [← l1]; exact z.2.2, fun p' np => po_new (ds := (List.replicate k.toNat ds).flatten) S h (by simp only [gRep, if_pos z]) np (by rw [rep_len, ← l1]; exact z.2.2) (r1.rep _)⟩
  · exact (RX.bad_elim h (by simp only [gRep, if_neg z])).elim⟩
/-- from a new list to a value -/
theorem op2_frz {g : D → D → Res (List D)} {r : R2} (k : Op2O X C g r) : Op2 X C (fun d e => (g d e).bind fun ds => .ok (.list ds)) r := fun B F σ H ρ x y d e Q S rx ry h =>
  k B F σ H ρ x y d e Q S rx ry (by
    replace h : RX C B (PD X.K C B σ F Q) (M.lift ((g d e).bind fun ds => .ok (.list ds)) ρ) := h
    cases q : g d e with
    | bad => rw [q] at h; exact h
    | exc c => rw [q] at h; exact h
    | ok ds =>
      rw [q] at h
      intro p xs F1 H1 s1 S1 fp bp no hp z r
      have sf : Same F1 (upd F1 p (.lst xs)) := same_upd fp
      exact h (.ref p) (upd F1 p (.lst xs)) H1 (s1.trans sf) (S1.settle hp fp bp no) ⟨p, xs, rfl, .inl upd_same, z, r.mono sf⟩)
theorem op1_frz {g : D → Res (List D)} {r : V → Hp → VK → Prop} (k : Op1O X C g r) : Op1 X C (fun d => (g d).bind fun ds => .ok (.list ds)) r := fun B F σ H ρ x d Q S rx h =>
  k B F σ H ρ x d Q S rx (by
    replace h : RX C B (PD X.K C B σ F Q) (M.lift ((g d).bind fun ds => .ok (.list ds)) ρ) := h
    cases q : g d with
    | bad => rw [q] at h; exact h
    | exc c => rw [q] at h; exact h
    | ok ds =>
      rw [q] at h
      intro p xs F1 H1 s1 S1 fp bp no hp z r
      have sf : Same F1 (upd F1 p (.lst xs)) := same_upd fp
      exact h (.ref p) (upd F1 p (.lst xs)) H1 (s1.trans sf) (S1.settle hp fp bp no) ⟨p, xs, rfl, .inl upd_same, z, r.mono sf⟩)
theorem OpD.or {f : Value → Value → Sem Value} {g g' : D → D → Res D} {k : D → D → Bool} (h : OpD X C f g) (h' : OpD X C f g') : OpD X C f (fun d e => if k d e = true then g d e else g' d e) := by
  obtain ⟨r, o, q⟩ := h
  obtain ⟨r', o', q'⟩ := h'
  refine ⟨_, o.or o', fun B F σ H ρ x y d e Q S rx ry w => ?_⟩
  replace w : RX C B (PD X.K C B σ F Q) (M.lift (if k d e = true then g d e else g' d e) ρ) := w
  by_cases c : k d e = true
  · exact .inl (q B F σ H ρ x y d e Q S rx ry (by rw [if_pos c] at w; exact w))
  · exact .inr (q' B F σ H ρ x y d e Q S rx ry (by rw [if_neg c] at w; exact w))
def isLst : D → Bool
  | .list _ => true
  | _ => false
def dAddL (d e : D) : Res D := if isLst d = true then (gCat d e).bind fun ds => .ok (.list ds) else dAdd d e
theorem o_addL : OpD X C (binaryOp .Add) dAddL := OpD.or (k := fun d _ => isLst d) (let ⟨_, o, q⟩ := o_catO; ⟨_, o, op2_frz q⟩) o_add
def dMul (d e : D) : Res D := if isLst d = true then (gRep d e).bind fun ds => .ok (.list ds) else dMulI d e
theorem o_mul : OpD X C (binaryOp .Mult) dMul := OpD.or (k := fun d _ => isLst d) (let ⟨_, o, q⟩ := o_repO; ⟨_, o, op2_frz q⟩) o_mulI

/-! ### x[i] -/
def dIx : D → D → Res D
  | .list xs, .int i => match atI xs i with
    | some d => .ok d
    | none => .bad
  | .tuple xs, .int i => match atI xs i with
    | some d => .ok d
    | none => .bad
  | .str z, .int i => match atI z.cps.toList i with
    | some c => if z.length ≤ sizeLine then .ok (.str ⟨#[c]⟩) else .bad
    | none => .bad
  | _, _ => .bad
theorem at_rp {K : PySem.W.Frag} {F : Hp} {ds : List D} {vs : List V} {i : Int} {d : D} (r : RpAll K F ds vs) (h : atI ds i = some d) : ∃ v, atI vs i = some v ∧ Rp K F d v := by
  unfold atI at h ⊢
  rw [r.len] at h
  cases e : ixN vs.length i with
  | none => rw [e] at h; cases h
  | some j =>
    rw [e] at h
    obtain ⟨v, e1, q⟩ := r.get' (i := j) h
    exact ⟨v, by simpa using e1, q⟩
theorem op_ix : Op2 X C dIx (rIx X.K) := fun B F σ H ρ x y d e Q S rx ry h => by
  cases d with
  | list ds =>
    cases e <;> try exact (RX.bad_elim h rfl).elim
    rename_i i
    obtain ⟨p, xs, rfl, fp, zx, r1⟩ := rpv_lst S.fr rx
    cases q : atI ds i with
    | none => exact (RX.bad_elim h (by simp only [dIx, q])).elim
    | some d =>
      obtain ⟨v, e1, rv⟩ := at_rp r1 q
      exact .inl ⟨p, xs, i, v, rfl, rpv_int ry, .inl fp, e1, pd_now S h (by simp only [dIx, q]) rv⟩
  | tuple ds =>
    cases e <;> try exact (RX.bad_elim h rfl).elim
    rename_i i
    obtain ⟨p, xs, rfl, fp, hp, zx, r1⟩ := rpv_tup S.fr rx
    cases q : atI ds i with
    | none => exact (RX.bad_elim h (by simp only [dIx, q])).elim
    | some d =>
      obtain ⟨v, e1, rv⟩ := at_rp r1 q
      exact .inr (.inl ⟨p, xs, i, v, rfl, rpv_int ry, .of hp, e1, pd_now S h (by simp only [dIx, q]) rv⟩)
  | str z =>
    cases e <;> try exact (RX.bad_elim h rfl).elim
    rename_i i
    cases q : atI z.cps.toList i with
    | none => exact (RX.bad_elim h (by simp only [dIx, q])).elim
    | some c =>
      by_cases hz : z.length ≤ sizeLine
      · exact .inr (.inr ⟨z, i, c, rpv_str rx, rpv_int ry, hz, q, pd_now (d := .str ⟨#[c]⟩) S h (by simp only [dIx, q, if_pos hz]) rfl⟩)
      · exact (RX.bad_elim h (by simp only [dIx, q, if_neg hz])).elim
  | _ => exact (RX.bad_elim h rfl).elim
theorem m_ix (ha : PE X a (tL X.K C ma)) (hb : PE X b (tL X.K C mb)) (hs : PlainIx b := by exact fun _ _ => rfl) : PE X (.Subscript a b pos) (tM X.K C (e2 dIx ma mb)) :=
  pe_imp (pe_ix ix_seq ha hb hs) fun σ H Q h => e2_read op_ix h

/-! ### slices -/
def tP (K : PySem.W.Frag) (C : SC) (m : M (Option Int)) : TO := fun σ H Q => ∃ B F ρ, SR K C B F σ H ρ ∧ RX C B (fun o ρ => ∀ F' H', Same F F' → SR K C B F' σ H' ρ → Q o H') (m ρ)
theorem mp_no : L2.PO X none (tP X.K C (pure none)) := ⟨fun pins s σ H Q I h => po_none.run pins s σ H Q I (by
  obtain ⟨B, F, ρ, S, h⟩ := h
  exact h F H (Same.refl _) S)⟩
def ePart (m : M (M D)) : M (Option Int) := m >>= fun x => x >>= fun d => M.lift (match d with | .int i => .ok (some i) | _ => .bad)
theorem mp_so (h : PE X a (tL X.K C ma)) : L2.PO X (some a) (tP X.K C (ePart ma)) := ⟨fun pins s σ H Q I q => (po_some h).run pins s σ H Q I (by
  obtain ⟨B, F, ρ, S, q⟩ := q
  refine tL.of S q.bind fun la ρ1 h1 v F1 H1 s1 S1 r1 => ?_
  obtain ⟨d, rd, h3⟩ := late_step S1 r1 h1
  cases d <;> try exact (RX.bad_elim h3 rfl).elim
  exact ⟨_, rpv_int rd, h3 F1 H1 s1 S1⟩)⟩
def cutD (xs : List D) (lo hi : Option Int) : List D := (xs.drop (HT.sIx xs.length 0 lo)).take (HT.sIx xs.length xs.length hi - HT.sIx xs.length 0 lo)
theorem cut_rp {K : PySem.W.Frag} {F : Hp} {ds : List D} {vs : List V} {lo hi : Option Int} (r : RpAll K F ds vs) : RpAll K F (cutD ds lo hi) (cutV vs lo hi) := by
  unfold cutD cutV
  rw [r.len]
  exact (r.drop _).take _
theorem cut_whole {ds : List D} {lo hi : Option Int} (h : HT.sIx ds.length 0 lo = 0 ∧ HT.sIx ds.length ds.length hi = ds.length) : cutD ds lo hi = ds := by
  unfold cutD
  rw [h.1, h.2]
  simp
def dSl : D → Option Int → Option Int → Res D
  | .tuple ds, lo, hi => .ok (.tuple (cutD ds lo hi))
  | .list ds, lo, hi => .ok (.list (cutD ds lo hi))
  | _, _, _ => .bad
def eSl {α : Type} (g : D → Option Int → Option Int → Res α) (ma : M (M D)) (ml mh : M (Option Int)) : M α := ma >>= fun x => ml >>= fun l => mh >>= fun h => x >>= fun d => M.lift (g d l h)
variable {ml mh : M (Option Int)} {lo hi : Option Expr}
theorem eSl_read {g : D → Option Int → Option Int → Res D} {r : V → Option Int → Option Int → Hp → VK → Prop}
    (k : ∀ B F σ H ρ x d l u Q, SR X.K C B F σ H ρ → RpV X.K F H d x → RX C B (PD X.K C B σ F Q) (M.lift (g d l u) ρ) → r x l u H Q) {σ : L2.St} {H : Hp} {Q : VK} (h : tM X.K C (eSl g ma ml mh) σ H Q) : tSl r (tL X.K C ma) (tP X.K C ml) (tP X.K C mh) σ H Q := by
  obtain ⟨B, F, ρ, S, q⟩ := h
  refine tL.of S q.bind fun la ρ1 h1 v F1 H1 s1 S1 r1 => ?_
  refine ⟨B, F1, ρ1, S1, h1.bind.imp fun l ρ2 h2 F2 H2 s2 S2 => ?_⟩
  refine ⟨B, F2, ρ2, S2, h2.bind.imp fun u ρ3 h3 F3 H3 s3 S3 => ?_⟩
  obtain ⟨d, rd, h4⟩ := late_step S3 (r1.mono (s2.trans s3)) h3
  exact k B F3 σ H3 ρ3 v d l u Q S3 rd (h4.imp fun _ _ q => q.mono (s1.trans (s2.trans s3)))
theorem eSlO_read {g : D → Option Int → Option Int → Res (List D)} {r : V → Option Int → Option Int → Hp → VK → Prop}
    (k : ∀ B F σ H ρ x d l u Q, SR X.K C B F σ H ρ → RpV X.K F H d x → RX C B (PO X.K C B σ F Q) (M.lift (g d l u) ρ) → r x l u H Q) {σ : L2.St} {H : Hp} {Q : VK} (h : tO X.K C (eSl g ma ml mh) σ H Q) : tSl r (tL X.K C ma) (tP X.K C ml) (tP X.K C mh) σ H Q := by
  obtain ⟨B, F, ρ, S, q⟩ := h
  refine tL.of S q.bind fun la ρ1 h1 v F1 H1 s1 S1 r1 => ?_
  refine ⟨B, F1, ρ1, S1, h1.bind.imp fun l ρ2 h2 F2 H2 s2 S2 => ?_⟩
  refine ⟨B, F2, ρ2, S2, h2.bind.imp fun u ρ3 h3 F3 H3 s3 S3 => ?_⟩
  obtain ⟨d, rd, h4⟩ := late_step S3 (r1.mono (s2.trans s3)) h3
  exact k B F3 σ H3 ρ3 v d l u Q S3 rd (h4.imp fun _ _ q => q.mono (s1.trans (s2.trans s3)))
theorem m_sl (ha : PE X a (tL X.K C ma)) (hl : L2.PO X lo (tP X.K C ml)) (hh : L2.PO X hi (tP X.K C mh)) : PE X (.Subscript a (.Slice lo hi none p2) pos) (tM X.K C (eSl dSl ma ml mh)) :=
  pe_imp (pe_slice (sl_tupA.or sl_list) ha hl hh) fun σ H Q h => eSl_read (fun B F σ H ρ x d l u Q S rx h => by
    cases d <;> try exact (RX.bad_elim h rfl).elim
    · rename_i ds
      obtain ⟨p, xs, rfl, fp, zx, r1⟩ := rpv_lst S.fr rx
      exact .inr ⟨p, xs, rfl, .inl fp, fun p' np => pd_new S h rfl np ⟨p', _, rfl, .inl upd_same, Nat.le_trans (cutV_length _ _ _) zx, (cut_rp r1).mono (same_upd (S.fresh np).1)⟩⟩
    · rename_i ds
      obtain ⟨p, xs, rfl, fp, hp, zx, r1⟩ := rpv_tup S.fr rx
      refine .inl ⟨p, xs, rfl, .of hp, fun w => ?_, fun w p' np => pd_new S h rfl np ⟨p', _, rfl, upd_same, Nat.le_trans (cutV_length _ _ _) zx, (cut_rp r1).mono (same_upd (S.fresh np).1)⟩⟩
      rw [← r1.len] at w
      exact pd_now (d := .tuple ds) S h (by simp only [dSl, cut_whole w]) ⟨p, xs, rfl, fp, zx, r1⟩) h
def gSl : D → Option Int → Option Int → Res (List D)
  | .list ds, lo, hi => .ok (cutD ds lo hi)
  | _, _, _ => .bad
theorem m_slO (ha : PE X a (tL X.K C ma)) (hl : L2.PO X lo (tP X.K C ml)) (hh : L2.PO X hi (tP X.K C mh)) : PE X (.Subscript a (.Slice lo hi none p2) pos) (tO X.K C (eSl gSl ma ml mh)) :=
  pe_imp (pe_slice sl_list ha hl hh) fun σ H Q h => eSlO_read (fun B F σ H ρ x d l u Q S rx h => by
    cases d <;> try exact (RX.bad_elim h rfl).elim
    rename_i ds
    obtain ⟨p, xs, rfl, fp, zx, r1⟩ := rpv_lst S.fr rx
    exact ⟨p, xs, rfl, .inl fp, fun p' np => po_new S h rfl np (Nat.le_trans (cutV_length _ _ _) zx) (cut_rp r1)⟩) h

/-! ### displays, arguments -/
variable {es : List Expr} {va : M D} {vs : M (List D)}
theorem ma_nil : PA X [] (tA X.K C (pure [])) := pa_imp pa_nil fun σ H Q ⟨B, F, ρ, S, q⟩ => q [] F H (Same.refl _) S rfl
def eCons (va : M D) (vs : M (List D)) : M (List D) := va >>= fun d => vs >>= fun ds => pure (d :: ds)
theorem ma_cons (ha : PE X a (tM X.K C va)) (hs : PA X es (tA X.K C vs)) (h : starEach (a :: es) X.env = (false, eval a X.env) :: starEach es X.env := by rfl) : PA X (a :: es) (tA X.K C (eCons va vs)) :=
  pa_imp (pa_cons ha hs h) fun σ H Q ⟨B, F, ρ, S, q⟩ => by
    refine tM.of S q.bind fun d ρ1 h1 v F1 H1 s1 S1 r1 => ?_
    refine tA.of S1 h1.bind fun ds ρ2 h2 ws F2 H2 s2 S2 r2 => ?_
    exact h2 (v :: ws) F2 H2 (s1.trans s2) S2 (.cons (r1.mono s2) r2)
def few (ds : List D) : Res (List D) := if ds.length ≤ sizeLine then .ok ds else .bad
theorem few_read {α : Type} {Φ : α → En → Prop} {ds : List D} {f : List D → M α} {ρ : En} (h : RX C B Φ ((M.lift (few ds) >>= f) ρ)) : ds.length ≤ sizeLine ∧ RX C B Φ (f ds ρ) := by
  unfold few at h
  by_cases z : ds.length ≤ sizeLine
  · rw [if_pos z] at h
    exact ⟨z, h⟩
  · rw [if_neg z] at h
    exact (show False from h).elim
def eTup (vs : M (List D)) : M D := vs >>= fun ds => M.lift (few ds) >>= fun ds => pure (.tuple ds)
theorem m_tup {k : Nat} {ctx} (hs : PA X es (tA X.K C vs)) : PE X (.Tuple es ctx pos) (tM X.K C (eTup vs)) :=
  pe_imp (pe_tup hs) fun σ H Q ⟨B, F, ρ, S, q⟩ => by
    refine tA.of S q.bind fun ds ρ1 h1 ws F1 H1 s1 S1 r1 => ?_
    obtain ⟨z, h2⟩ := few_read h1
    refine ⟨by rw [← r1.len]; exact z, fun p np => ?_⟩
    exact h2 _ _ _ (s1.trans (same_upd (S1.fresh np).1)) (S1.alloc np) ⟨p, ws, rfl, upd_same, by rw [← r1.len]; exact z, r1.mono (same_upd (S1.fresh np).1)⟩
def eLst (vs : M (List D)) : M (List D) := vs >>= fun ds => M.lift (few ds)
theorem m_lstO (hs : PA X es (tA X.K C vs)) : PE X (.List es pos) (tO X.K C (eLst vs)) :=
  pe_imp (pe_lst hs) fun σ H Q ⟨B, F, ρ, S, q⟩ => by
    refine tA.of S q.bind fun ds ρ1 h1 ws F1 H1 s1 S1 r1 => ?_
    by_cases z : ds.length ≤ sizeLine
    · refine ⟨by rw [← r1.len]; exact z, fun p np => ?_⟩
      exact po_new S1 (h1.imp fun _ _ q => q.mono s1) (by unfold few; rw [if_pos z]) np (by rw [← r1.len]; exact z) r1
    · exact (RX.bad_elim h1 (by unfold few; rw [if_neg z])).elim
end
end VS

set_option Elab.async false
set_option linter.all false
set_option maxRecDepth 100000
set_option maxHeartbeats 4000000
namespace VS
open PySem PySem.Spec PyProof.Rows L2
section
variable {X : Cx} {C : SC} {B : Bs} {a b c : Expr} {pos p p2 : Pos} {ma mb mc : M (M D)} {x : Str}
/-! ### a built-in with one argument, two arguments -/
def Call1 (X : Cx) (C : SC) (f : Value) (g : D → Res D) : Prop := ∃ r, CallR X f r ∧ Op1 X C g (fun x H Q => r [x] H Q)
def Call1O (X : Cx) (C : SC) (f : Value) (g : D → Res (List D)) : Prop := ∃ r, CallR X f r ∧ Op1O X C g (fun x H Q => r [x] H Q)
def Call2 (X : Cx) (C : SC) (f : Value) (g : D → D → Res D) : Prop := ∃ r, CallR X f r ∧ Op2 X C g (fun x y H Q => r [x, y] H Q)
theorem tcb1 {r : List V → Hp → VK → Prop} {ta : TE} {σ : L2.St} {H : Hp} {Q : VK} (h : ta σ H (fun x H1 => r [x] H1 Q)) : tCB r (tCons ta tNil) σ H Q := h
theorem m_callB1 {id : String} {g : D → Res D} (k : Call1 X C (.builtin id) g) (hm : X.mg x = none) (ha : PE X a (tL X.K C ma)) (hg : Gl X x := by rfl) (hv : bootBuiltins x = some (.builtin id) := by decide +kernel) (hn : x ≠ "__name__" := by decide) (hdb : (x == ("__debug__" : Str)) = false := by decide)
    (he : starEach [a] X.env = (false, eval a X.env) :: starEach [] X.env := by rfl) (hpl : (backTo pos (starEach [] X.env)).any (·.1) = false := by rfl) : PE X (.Call (.Name x p) [a] [] pos) (tM X.K C (e1 g ma)) :=
  let ⟨_, o, q⟩ := k
  pe_imp (pe_callB o hg hm hv (pa_cons ha pa_nil he) hn hdb he hpl) fun _ _ _ h => tcb1 (e1_read q h)
theorem m_callB1O {id : String} {g : D → Res (List D)} (k : Call1O X C (.builtin id) g) (hm : X.mg x = none) (ha : PE X a (tL X.K C ma)) (hg : Gl X x := by rfl) (hv : bootBuiltins x = some (.builtin id) := by decide +kernel) (hn : x ≠ "__name__" := by decide) (hdb : (x == ("__debug__" : Str)) = false := by decide)
    (he : starEach [a] X.env = (false, eval a X.env) :: starEach [] X.env := by rfl) (hpl : (backTo pos (starEach [] X.env)).any (·.1) = false := by rfl) : PE X (.Call (.Name x p) [a] [] pos) (tO X.K C (e1 g ma)) :=
  let ⟨_, o, q⟩ := k
  pe_imp (pe_callB o hg hm hv (pa_cons ha pa_nil he) hn hdb he hpl) fun _ _ _ h => tcb1 (e1O_read q h)
theorem m_callT1 {T : String} {g : D → Res D} (k : Call1 X C (.type T) g) (hm : X.mg x = none) (ha : PE X a (tL X.K C ma)) (hg : Gl X x := by rfl) (hv : bootBuiltins x = some (.type T) := by decide +kernel) (hn : x ≠ "__name__" := by decide) (hdb : (x == ("__debug__" : Str)) = false := by decide)
    (he : starEach [a] X.env = (false, eval a X.env) :: starEach [] X.env := by rfl) (hpl : (backTo pos (starEach [] X.env)).any (·.1) = false := by rfl) : PE X (.Call (.Name x p) [a] [] pos) (tM X.K C (e1 g ma)) :=
  let ⟨_, o, q⟩ := k
  pe_imp (pe_callTy o hg hm hv (pa_cons ha pa_nil he) hn hdb he hpl) fun _ _ _ h => tcb1 (e1_read q h)
theorem m_callT1O {T : String} {g : D → Res (List D)} (k : Call1O X C (.type T) g) (hm : X.mg x = none) (ha : PE X a (tL X.K C ma)) (hg : Gl X x := by rfl) (hv : bootBuiltins x = some (.type T) := by decide +kernel) (hn : x ≠ "__name__" := by decide) (hdb : (x == ("__debug__" : Str)) = false := by decide)
    (he : starEach [a] X.env = (false, eval a X.env) :: starEach [] X.env := by rfl) (hpl : (backTo pos (starEach [] X.env)).any (·.1) = false := by rfl) : PE X (.Call (.Name x p) [a] [] pos) (tO X.K C (e1 g ma)) :=
  let ⟨_, o, q⟩ := k
  pe_imp (pe_callTy o hg hm hv (pa_cons ha pa_nil he) hn hdb he hpl) fun _ _ _ h => tcb1 (e1O_read q h)
theorem m_callB2 {id : String} {g : D → D → Res D} (k : Call2 X C (.builtin id) g) (hm : X.mg x = none) (ha : PE X a (tL X.K C ma)) (hb : PE X b (tL X.K C mb)) (hg : Gl X x := by rfl) (hv : bootBuiltins x = some (.builtin id) := by decide +kernel) (hn : x ≠ "__name__" := by decide) (hdb : (x == ("__debug__" : Str)) = false := by decide)
    (he : starEach [a, b] X.env = (false, eval a X.env) :: starEach [b] X.env := by rfl) (he2 : starEach [b] X.env = (false, eval b X.env) :: starEach [] X.env := by rfl) (hpl : (backTo pos (starEach [b] X.env)).any (·.1) = false := by rfl) : PE X (.Call (.Name x p) [a, b] [] pos) (tM X.K C (e2 g ma mb)) :=
  let ⟨_, o, q⟩ := k
  pe_imp (pe_callB o hg hm hv (pa_cons ha (pa_cons hb pa_nil he2) he) hn hdb he hpl) fun _ _ _ h => e2_read q h

/-! ### which -/
def gLen : D → Res D
  | .list xs => .ok (.int xs.length)
  | .tuple xs => .ok (.int xs.length)
  | .str z => if z.length ≤ sizeLine then .ok (.int z.length) else .bad
  | _ => .bad
theorem f_len : Call1 X C (.builtin "len") gLen := ⟨_, call_len, fun B F σ H ρ x d Q S rx h => by
  cases d <;> try exact (RX.bad_elim h rfl).elim
  · rename_i z
    by_cases hz : z.length ≤ sizeLine
    · exact ⟨x, z.length, rfl, by rw [rpv_str rx]; exact ⟨hz, rfl⟩, pd_in S h (by simp only [gLen, if_pos hz])⟩
    · exact (RX.bad_elim h (by simp only [gLen, if_neg hz])).elim
  · obtain ⟨p, xs, rfl, fp, zx, r1⟩ := rpv_lst S.fr rx
    exact ⟨_, xs.length, rfl, .inl ⟨xs, .inl fp, rfl⟩, pd_in S h (by simp only [gLen, r1.len])⟩
  · obtain ⟨p, xs, rfl, fp, hp, zx, r1⟩ := rpv_tup S.fr rx
    exact ⟨_, xs.length, rfl, .inr ⟨xs, .of hp, rfl⟩, pd_in S h (by simp only [gLen, r1.len])⟩⟩
def gAbs : D → Res D
  | .int i => .ok (.int (if i < 0 then -i else i))
  | _ => .bad
theorem f_abs : Call1 X C (.builtin "abs") gAbs := ⟨_, call_abs, fun B F σ H ρ x d Q S rx h => by
  cases d <;> try exact (RX.bad_elim h rfl).elim
  exact ⟨_, by rw [rpv_int rx], pd_in S h rfl⟩⟩
def gInt : D → Res D
  | .int i => .ok (.int i)
  | .bool k => .ok (.int (if k then 1 else 0))
  | _ => .bad
theorem f_int : Call1 X C (.type "int") gInt := ⟨_, call_int1, fun B F σ H ρ x d Q S rx h => by
  cases d <;> try exact (RX.bad_elim h rfl).elim
  · exact .inr ⟨_, by rw [rpv_bool rx], pd_in S h rfl⟩
  · exact .inl ⟨_, by rw [rpv_int rx], pd_in S h rfl⟩⟩
def gStr : D → Res D
  | .int i => if i.natAbs.log2 < 1920 then .ok (.str (toString i)) else .bad
  | _ => .bad
theorem f_str : Call1 X C (.type "str") gStr := ⟨_, call_str_int, fun B F σ H ρ x d Q S rx h => by
  cases d <;> try exact (RX.bad_elim h rfl).elim
  rename_i i
  by_cases z : i.natAbs.log2 < 1920
  · exact ⟨i, by rw [rpv_int rx], z, pd_now (d := .str (toString i)) S h (by simp only [gStr, if_pos z]) rfl⟩
  · exact (RX.bad_elim h (by simp only [gStr, if_neg z])).elim⟩
def boolsOf : List D → Option (List Bool)
  | [] => some []
  | .bool i :: r => (boolsOf r).map (i :: ·)
  | _ => none
theorem boolsOf_eq : ∀ {ds : List D} {ns : List Bool}, boolsOf ds = some ns → ds = ns.map PyData.bool
  | [], ns, h => by cases h; rfl
  | d :: ds, ns, h => by
    cases d <;> simp [boolsOf] at h
    obtain ⟨m, h1, rfl⟩ := h
    simp [boolsOf_eq h1]
theorem boolsOf_map : ∀ (ns : List Bool), boolsOf (ns.map PyData.bool) = some ns
  | [] => rfl
  | n :: ns => by simp [boolsOf, boolsOf_map ns]
def gBools (f : List Bool → Bool) : D → Res D
  | .list xs => match boolsOf xs with
    | some bs => .ok (.bool (f bs))
    | none => .bad
  | _ => .bad
theorem f_all (hc : X.calm = true) : Call1 X C (.builtin "all") (gBools fun bs => bs.all id) := ⟨_, cr_all hc, fun B F σ H ρ x d Q S rx h => by
  cases d <;> try exact (RX.bad_elim h rfl).elim
  rename_i ds
  cases e : boolsOf ds with
  | none => exact (RX.bad_elim h (by simp only [gBools, e])).elim
  | some bs =>
    have z := boolsOf_eq e
    subst z
    obtain ⟨p, xs, rfl, fp, zx, r1⟩ := rpv_lst S.fr rx
    have y := r1.bools
    subst y
    exact ⟨p, bs, rfl, .inl fp, pd_bl S h (by simp only [gBools, e])⟩⟩
theorem f_any (hc : X.calm = true) : Call1 X C (.builtin "any") (gBools fun bs => bs.any id) := ⟨_, cr_any hc, fun B F σ H ρ x d Q S rx h => by
  cases d <;> try exact (RX.bad_elim h rfl).elim
  rename_i ds
  cases e : boolsOf ds with
  | none => exact (RX.bad_elim h (by simp only [gBools, e])).elim
  | some bs =>
    have z := boolsOf_eq e
    subst z
    obtain ⟨p, xs, rfl, fp, zx, r1⟩ := rpv_lst S.fr rx
    have y := r1.bools
    subst y
    exact ⟨p, bs, rfl, .inl fp, pd_bl S h (by simp only [gBools, e])⟩⟩
def gSum : D → Res D
  | .list xs => match intsOf xs with
    | some ns => .ok (.int ns.sum)
    | none => .bad
  | _ => .bad
theorem f_sum (hc : X.calm = true) : Call1 X C (.builtin "sum") gSum := ⟨_, cr_sum hc, fun B F σ H ρ x d Q S rx h => by
  cases d <;> try exact (RX.bad_elim h rfl).elim
  rename_i ds
  cases e : intsOf ds with
  | none => exact (RX.bad_elim h (by simp only [gSum, e])).elim
  | some ns =>
    have z := intsOf_eq e
    subst z
    obtain ⟨p, xs, rfl, fp, zx, r1⟩ := rpv_lst S.fr rx
    have y := r1.ints
    subst y
    exact ⟨p, ns, rfl, .inl fp, pd_in S h (by simp only [gSum, e])⟩⟩
def gMax : D → D → Res D := gI fun i j => .ok (.int (if j > i then j else i))
theorem f_max (hc : X.calm = true) : Call2 X C (.builtin "max") gMax := ⟨_, call_max2 hc, fun B F σ H ρ x y d e Q S rx ry h => by
  cases d <;> try exact (RX.bad_elim h rfl).elim
  cases e <;> try exact (RX.bad_elim h rfl).elim
  exact ⟨_, _, by rw [rpv_int rx, rpv_int ry], pd_in S h rfl⟩⟩
def gMin : D → D → Res D := gI fun i j => .ok (.int (if j < i then j else i))
theorem f_min (hc : X.calm = true) : Call2 X C (.builtin "min") gMin := ⟨_, call_min2 hc, fun B F σ H ρ x y d e Q S rx ry h => by
  cases d <;> try exact (RX.bad_elim h rfl).elim
  cases e <;> try exact (RX.bad_elim h rfl).elim
  exact ⟨_, _, by rw [rpv_int rx, rpv_int ry], pd_in S h rfl⟩⟩
def gTup : D → Res D
  | .list xs => .ok (.tuple xs)
  | .tuple xs => .ok (.tuple xs)
  | _ => .bad
theorem f_tuple : Call1 X C (.type "tuple") gTup := ⟨_, call_tuple_of, fun B F σ H ρ x d Q S rx h => by
  cases d <;> try exact (RX.bad_elim h rfl).elim
  · obtain ⟨p, xs, rfl, fp, zx, r1⟩ := rpv_lst S.fr rx
    exact ⟨p, xs, rfl, .inl ⟨.inl fp, fun l nl => pd_new S h rfl nl ⟨l, xs, rfl, upd_same, zx, r1.mono (same_upd (S.fresh nl).1)⟩⟩⟩
  · obtain ⟨p, xs, rfl, fp, hp, zx, r1⟩ := rpv_tup S.fr rx
    exact ⟨p, xs, rfl, .inr ⟨.of hp, pd_now S h rfl ⟨p, xs, rfl, fp, zx, r1⟩⟩⟩⟩
def gList : D → Res (List D)
  | .list xs => .ok xs
  | .tuple xs => .ok xs
  | _ => .bad
theorem f_list : Call1O X C (.type "list") gList := ⟨_, call_list_of, fun B F σ H ρ x d Q S rx h => by
  cases d <;> try exact (RX.bad_elim h rfl).elim
  · obtain ⟨p, xs, rfl, fp, zx, r1⟩ := rpv_lst S.fr rx
    exact ⟨p, xs, rfl, .inl (.inl fp), fun l nl => po_new S h rfl nl zx r1⟩
  · obtain ⟨p, xs, rfl, fp, hp, zx, r1⟩ := rpv_tup S.fr rx
    exact ⟨p, xs, rfl, .inr (.of hp), fun l nl => po_new S h rfl nl zx r1⟩⟩
/-! ### sorted, of whole numbers -/
def sortI (ns : List Int) : List Int := ns.mergeSort (fun a b => decide (a ≤ b))
theorem sortI_perm (ns : List Int) : (sortI ns).Perm ns := List.mergeSort_perm _ _
theorem sortI_sorted (ns : List Int) : (sortI ns).Pairwise (· ≤ ·) := by
  have h := List.pairwise_mergeSort (le := fun a b : Int => decide (a ≤ b)) (fun a b c h1 h2 => by simp at *; omega) (fun a b => by simp; omega) ns
  exact h.imp fun h => by simpa using h
theorem sorted_unique : ∀ {xs ys : List Int}, xs.Perm ys → xs.Pairwise (· ≤ ·) → ys.Pairwise (· ≤ ·) → xs = ys
  | [], ys, h, _, _ => by rw [List.nil_perm.mp h]
  | x :: xs, [], h, _, _ => by exact absurd h.symm (by simp)
  | x :: xs, y :: ys, h, h1, h2 => by
    have a1 := List.pairwise_cons.mp h1
    have a2 := List.pairwise_cons.mp h2
    have mx : x ∈ y :: ys := h.mem_iff.mp List.mem_cons_self
    have my : y ∈ x :: xs := h.mem_iff.mpr List.mem_cons_self
    have e : x = y := by
      rcases List.mem_cons.mp mx with e | e
      · exact e
      · rcases List.mem_cons.mp my with e' | e'
        · exact e'.symm
        · have := a1.1 _ e'
          have := a2.1 _ e
          omega
    subst e
    rw [sorted_unique (List.Perm.cons_inv h) a1.2 a2.2]
/-! ### list(range(a, b)), tuple(range(a, b)) -/
def rgD (a b : Int) : List D := (List.range (b - a).toNat).map fun i => PyData.int (a + (i : Nat))
theorem rg_rp {K : PySem.W.Frag} {F : Hp} (a b : Int) : RpAll K F (rgD a b) (rgV a b) := by
  unfold rgD rgV
  generalize List.range (b - a).toNat = l
  induction l with
  | nil => exact rfl
  | cons i l ih => exact ⟨_, _, rfl, rfl, ih⟩
instance (a b : Int) : Decidable (RgOk a b) := by unfold RgOk; infer_instance
def tRg (K : PySem.W.Frag) (C : SC) (m : M (Int × Int)) : L2.St → Hp → (Int → Int → Hp → Prop) → Prop := fun σ H Q => ∃ B F ρ, SR K C B F σ H ρ ∧ RX C B (fun p ρ => ∀ F' H', Same F F' → SR K C B F' σ H' ρ → Q p.1 p.2 H') (m ρ)
def asI : D → Res Int
  | .int i => .ok i
  | _ => .bad
def eRg1 (ma : M (M D)) : M (Int × Int) := ma >>= fun x => x >>= fun d => M.lift (asI d) >>= fun n => pure (0, n)
def eRg2 (ma mb : M (M D)) : M (Int × Int) := ma >>= fun x => mb >>= fun y => x >>= fun d => y >>= fun e => M.lift (asI d) >>= fun n => M.lift (asI e) >>= fun k => pure (n, k)
theorem asI_step {α : Type} {Φ : α → En → Prop} {ρ : En} {d : D} {f : Int → M α} (h : RX C B Φ ((M.lift (asI d) >>= f) ρ)) : ∃ i, d = .int i ∧ RX C B Φ (f i ρ) := by
  cases d <;> try exact (show False from h).elim
  exact ⟨_, rfl, h⟩
theorem rg1 (hm : X.mg "range" = none) (ha : PE X a (tL X.K C ma)) (hg : Gl X "range" := by rfl) (na : starEach [a] X.env = (false, eval a X.env) :: starEach [] X.env := by rfl) : PRg X (.Call (.Name "range" p) [a] [] pos) (tRg X.K C (eRg1 ma)) := by
  intro pins s σ H Q I q
  refine prg_1 hg hm ha na pins s σ H Q I ?_
  obtain ⟨B, F, ρ, S, q⟩ := q
  refine tL.of S q.bind fun la ρ1 h1 v F1 H1 s1 S1 r1 => ?_
  obtain ⟨d, rd, h3⟩ := late_step S1 r1 h1
  obtain ⟨i, rfl, h4⟩ := asI_step h3
  exact ⟨i, rpv_int rd, h4 F1 H1 s1 S1⟩
theorem rg2 (hm : X.mg "range" = none) (ha : PE X a (tL X.K C ma)) (hb : PE X b (tL X.K C mb)) (hg : Gl X "range" := by rfl) (na : starEach [a, b] X.env = (false, eval a X.env) :: starEach [b] X.env := by rfl)
    (nb : starEach [b] X.env = (false, eval b X.env) :: starEach [] X.env := by rfl) (hp : (backTo pos (starEach [b] X.env)).any (·.1) = false := by rfl) : PRg X (.Call (.Name "range" p) [a, b] [] pos) (tRg X.K C (eRg2 ma mb)) := by
  intro pins s σ H Q I q
  refine prg_2 hg hm ha hb na nb hp pins s σ H Q I ?_
  obtain ⟨B, F, ρ, S, q⟩ := q
  refine tL.of S q.bind fun la ρ1 h1 v F1 H1 s1 S1 r1 => ?_
  refine tL.of S1 h1.bind fun lb ρ2 h2 u F2 H2 s2 S2 r2 => ?_
  obtain ⟨d, rd, h3⟩ := late_step S2 (r1.mono s2) h2
  obtain ⟨e, re, h4⟩ := late_step S2 r2 h3
  obtain ⟨i, rfl, h5⟩ := asI_step h4
  obtain ⟨j, rfl, h6⟩ := asI_step h5
  exact ⟨i, j, rpv_int rd, rpv_int re, h6 F2 H2 (s1.trans s2) S2⟩
def gRgL (p : Int × Int) : Res (List D) := if RgOk p.1 p.2 then .ok (rgD p.1 p.2) else .bad
def gRgT (p : Int × Int) : Res D := if RgOk p.1 p.2 then .ok (.tuple (rgD p.1 p.2)) else .bad
theorem rgOk_len {a b : Int} (h : RgOk a b) : (rgV a b).length ≤ sizeLine := by rw [rgV_length, sizeLine_eq]; have := h.2.2.2.2; omega
theorem m_listRg {m : M (Int × Int)} (hc : X.calm = true) (hm : X.mg "list" = none) (he : PRg X a (tRg X.K C m)) (hg : Gl X "list" := by rfl) (na : starEach [a] X.env = (false, eval a X.env) :: starEach [] X.env := by rfl) : PE X (.Call (.Name "list" p) [a] [] pos) (tO X.K C (m >>= fun p => M.lift (gRgL p))) :=
  pe_imp (pe_listRg hc hg hm he na) fun σ H Q ⟨B, F, ρ, S, q⟩ => ⟨B, F, ρ, S, q.bind.imp fun pr ρ1 h1 F1 H1 s1 S1 => by
    obtain ⟨i, j⟩ := pr
    by_cases z : RgOk i j
    · exact ⟨z, fun q nq => po_new S1 (h1.imp fun _ _ q => q.mono s1) (by unfold gRgL; rw [if_pos z]) nq (rgOk_len z) (rg_rp i j)⟩
    · exact (RX.bad_elim h1 (by unfold gRgL; rw [if_neg z])).elim⟩
theorem m_tupRg {m : M (Int × Int)} (hc : X.calm = true) (hm : X.mg "tuple" = none) (he : PRg X a (tRg X.K C m)) (hg : Gl X "tuple" := by rfl) (na : starEach [a] X.env = (false, eval a X.env) :: starEach [] X.env := by rfl) : PE X (.Call (.Name "tuple" p) [a] [] pos) (tM X.K C (m >>= fun p => M.lift (gRgT p))) :=
  pe_imp (pe_tupRg hc hg hm he na) fun σ H Q ⟨B, F, ρ, S, q⟩ => ⟨B, F, ρ, S, q.bind.imp fun pr ρ1 h1 F1 H1 s1 S1 => by
    obtain ⟨i, j⟩ := pr
    by_cases z : RgOk i j
    · exact ⟨z, fun q nq => pd_new (d := .tuple (rgD i j)) S1 (h1.imp fun _ _ q => q.mono s1) (by unfold gRgT; rw [if_pos z]) nq ⟨q, _, rfl, upd_same, rgOk_len z, rg_rp i j⟩⟩
    · exact (RX.bad_elim h1 (by unfold gRgT; rw [if_neg z])).elim⟩
/-! ### isinstance -/
def tyD : D → String
  | .none => "NoneType"
  | .bool _ => "bool"
  | .int _ => "int"
  | .str _ => "str"
  | .list _ => "list"
  | .tuple _ => "tuple"
  | .dict _ => "dict"
theorem rpv_ty {F H : Hp} {d : D} {v : V} (s : Same F H) (h : RpV X.K F H d v) : TyX X.K H v (.type (tyD d)) := by
  cases d with
  | none => rw [rpv_none h]; exact .base .non
  | bool b => rw [rpv_bool h]; exact .base (.bl _)
  | int b => rw [rpv_int h]; exact .base (.int _)
  | str b => rw [rpv_str h]; exact .base (.str _)
  | list ds =>
    obtain ⟨p, xs, rfl, fp, zx, r1⟩ := rpv_lst s h
    rcases fp with q | ⟨o, q⟩
    · exact .base (.lst q)
    · exact .base (.frz q)
  | tuple ds =>
    obtain ⟨p, xs, rfl, fp, hp, zx, r1⟩ := rpv_tup s h
    exact .base (.tup hp)
  | dict kvs =>
    rcases h with h | ⟨p, xs, ds, e, _⟩
    · obtain ⟨a, kv, rfl, q, _⟩ := (show ∃ a kv, v = .ref a ∧ F a = some (.dK kv) ∧ RpKv X.K F kvs kv from h)
      exact .base (.dK (s _ _ q))
    · cases e
/-- is a value of this type; T one of the written ones -/
def isTy (T : String) (d : D) : Bool := tyD d == T || (tyD d == "bool" && T == "int")
theorem kit_all : (["NoneType", "bool", "int", "str", "list", "tuple", "dict"].all fun a => ["int", "bool", "str", "tuple", "list", "dict"].all fun b => kitB a b == some (a == b || (a == "bool" && b == "int"))) = true := by decide +kernel
theorem tyD_mem (d : D) : tyD d ∈ ["NoneType", "bool", "int", "str", "list", "tuple", "dict"] := by cases d <;> simp [tyD]
theorem kit_some {T : String} (hT : T ∈ ["int", "bool", "str", "tuple", "list", "dict"]) (d : D) : kitB (tyD d) T = some (isTy T d) := by
  have h := List.all_eq_true.mp (List.all_eq_true.mp kit_all _ (tyD_mem d)) _ hT
  exact eq_of_beq h
def gIsi (T : String) (d : D) : Res D := .ok (.bool (isTy T d))
theorem m_isi {T : String} (hT : T ∈ ["int", "bool", "str", "tuple", "list", "dict"]) (hm : X.mg "isinstance" = none) (hmT : X.mg x = none) (ha : PE X a (tL X.K C ma)) (hg : Gl X "isinstance" := by rfl) (hgT : Gl X x := by rfl) (hvT : bootBuiltins x = some (.type T) := by decide +kernel) (hn : x ≠ "__name__" := by decide) (hdb : (x == ("__debug__" : Str)) = false := by decide)
    (he : starEach [a, .Name x p2] X.env = (false, eval a X.env) :: starEach [.Name x p2] X.env := by rfl) (he2 : starEach [.Name x p2] X.env = (false, eval (.Name x p2) X.env) :: starEach [] X.env := by rfl) (hpl : (backTo pos (starEach [.Name x p2] X.env)).any (·.1) = false := by rfl) :
    PE X (.Call (.Name "isinstance" p) [a, .Name x p2] [] pos) (tM X.K C (e1 (gIsi T) ma)) :=
  pe_imp (pe_callB call_isi hg hm (by decide +kernel) (pa_cons ha (pa_cons (pe_bltn hgT hmT hvT (v := .ty T) rfl hn hdb) pa_nil he2) he) (by decide) (by decide) he hpl) fun σ H Q h =>
    e1_read (r := fun x H Q => rIsi X.K [x, .ty T] H Q) (fun B F σ H ρ x d Q S rx h => ⟨x, .ty T, _, _, _, rfl, .ty T, rpv_ty S.fr rx, kit_ty (kit_some hT d), pd_bl S h rfl⟩) h
theorem isTy_int (d : D) : isTy "int" d = (match d with | .int _ => true | .bool _ => true | _ => false) := by cases d <;> rfl
theorem isTy_bool (d : D) : isTy "bool" d = (match d with | .bool _ => true | _ => false) := by cases d <;> rfl
theorem isTy_str (d : D) : isTy "str" d = (match d with | .str _ => true | _ => false) := by cases d <;> rfl
theorem isTy_tuple (d : D) : isTy "tuple" d = (match d with | .tuple _ => true | _ => false) := by cases d <;> rfl
theorem isTy_list (d : D) : isTy "list" d = (match d with | .list _ => true | _ => false) := by cases d <;> rfl
theorem isTy_dict (d : D) : isTy "dict" d = (match d with | .dict _ => true | _ => false) := by cases d <;> rfl
end
end VS

set_option Elab.async false
set_option linter.all false
set_option maxRecDepth 100000
set_option maxHeartbeats 4000000
namespace VS
open PySem PySem.Spec PyProof.Rows L2
/-! ### what is walked -/
def Yields (K : PySem.W.Frag) (F H : Hp) (d : D) (x : V) (H' : Hp) : Prop :=
  (H' = H ∧ Rp K F d x) ∨ ∃ p xs es, H p = none ∧ H' = upd H p (.tup xs) ∧ x = .ref p ∧ d = .tuple es ∧ xs.length ≤ sizeLine ∧ RpAll K F es xs
def Walks (K : PySem.W.Frag) (J : It) (F : Hp) (ds : List D) : Prop := ∀ i H, Same F H →
  (∀ d, ds[i]? = some d → J.go i H ∧ ∀ x H', J.yld i H x H' → Yields K F H d x H') ∧ (ds.length ≤ i → J.stop i H)
theorem Yields.sr {K : PySem.W.Frag} {C : SC} {B : Bs} {F0 F H H' : Hp} {σ : L2.St} {ρ : En} {d : D} {x : V} (s : Same F0 F) (S : SR K C B F σ H ρ) (y : Yields K F0 H d x H') : ∃ F', Same F F' ∧ SR K C B F' σ H' ρ ∧ Rp K F' d x := by
  rcases y with ⟨rfl, r⟩ | ⟨p, xs, es, np, rfl, rfl, rfl, z, r⟩
  · exact ⟨F, Same.refl _, S, r.mono s⟩
  · have sf : Same F (upd F p (.tup xs)) := same_upd (S.fresh np).1
    exact ⟨_, sf, S.alloc np, p, xs, rfl, upd_same, z, r.mono (s.trans sf)⟩
def tI (K : PySem.W.Frag) (C : SC) (m : M (List D)) : TI := fun σ H R => ∃ B F ρ, SR K C B F σ H ρ ∧ RX C B (fun ds ρ1 => ∀ J F' H', Same F F' → SR K C B F' σ H' ρ1 → Walks K J F' ds → R J H') (m ρ)
theorem walks_list {K : PySem.W.Frag} {F : Hp} {a : Addr} {xs : List V} {ds : List D} (h : Rd F a (.lst xs)) (r : RpAll K F ds xs) (inj : ∀ H xs ys, SqL K H a xs → SqL K H a ys → xs = ys) : Walks K (Itl K a) F ds := fun i H s => by
  have hq : SqL K H a xs := .inl (rd_same s h)
  refine ⟨fun d e => ?_, fun e => ⟨xs, hq, by rw [← r.len]; exact e⟩⟩
  obtain ⟨v, ev, rv⟩ := r.get' e
  refine ⟨⟨xs, v, hq, ev⟩, fun x H' y => .inl ⟨y.1, ?_⟩⟩
  have e2 := y.2 xs hq
  rw [ev] at e2
  cases e2
  exact rv
theorem walks_list' {K : PySem.W.Frag} {F : Hp} {a : Addr} {xs : List V} {ds : List D} (h : Rd F a (.lst xs)) (r : RpAll K F ds xs) : Walks K (Itl K a) F ds := fun i H s => by
  have hq : SqL K H a xs := .inl (rd_same s h)
  refine ⟨fun d e => ?_, fun e => ⟨xs, hq, by rw [← r.len]; exact e⟩⟩
  obtain ⟨v, ev, rv⟩ := r.get' e
  refine ⟨⟨xs, v, hq, ev⟩, fun x H' y => .inl ⟨y.1, ?_⟩⟩
  have e2 := y.2 xs hq
  rw [ev] at e2
  cases e2
  exact rv
theorem walks_tup {K : PySem.W.Frag} {F : Hp} {a : Addr} {xs : List V} {ds : List D} (h : F a = some (.tup xs)) (r : RpAll K F ds xs) : Walks K (Itt K a) F ds := fun i H s => by
  have hq : SqT K H a xs := .of (s _ _ h)
  refine ⟨fun d e => ?_, fun e => ⟨xs, hq, by rw [← r.len]; exact e⟩⟩
  obtain ⟨v, ev, rv⟩ := r.get' e
  refine ⟨⟨xs, v, hq, ev⟩, fun x H' y => .inl ⟨y.1, ?_⟩⟩
  have e2 := y.2 xs hq
  rw [ev] at e2
  cases e2
  exact rv
section
variable {X : Cx} {C : SC} {B : Bs} {a b c tg : Expr} {pos p p2 : Pos} {ma mb mc : M (M D)} {x : Str} {va : M D}
def asL : D → Res (List D)
  | .list xs => .ok xs
  | _ => .bad
def asT : D → Res (List D)
  | .tuple xs => .ok xs
  | _ => .bad
theorem mi_list (h : PE X a (tM X.K C va)) : PI X tg a (tI X.K C (va >>= fun d => M.lift (asL d))) := ⟨fun pins s σ H R I q => (pi_list h).run pins s σ H R I (by
  obtain ⟨B, F, ρ, S, q⟩ := q
  refine tM.of S q.bind fun d ρ1 h1 v F1 H1 s1 S1 r1 => ?_
  cases d <;> try exact (RX.bad_elim h1 rfl).elim
  obtain ⟨p, xs, rfl, fp, zx, r⟩ := r1
  exact ⟨p, rfl, ⟨xs, .inl (rd_same S1.fr fp)⟩, h1 _ F1 H1 s1 S1 (walks_list' fp r)⟩)⟩
theorem mi_tup (h : PE X a (tM X.K C va)) : PI X tg a (tI X.K C (va >>= fun d => M.lift (asT d))) := ⟨fun pins s σ H R I q => (pi_tup h).run pins s σ H R I (by
  obtain ⟨B, F, ρ, S, q⟩ := q
  refine tM.of S q.bind fun d ρ1 h1 v F1 H1 s1 S1 r1 => ?_
  cases d <;> try exact (RX.bad_elim h1 rfl).elim
  obtain ⟨p, xs, rfl, fp, zx, r⟩ := r1
  exact ⟨p, rfl, ⟨xs, .of (S1.fr _ _ fp)⟩, h1 _ F1 H1 s1 S1 (walks_tup fp r)⟩)⟩
theorem PI.or {wi wi' : TI} {e : Expr} (h : PI X tg e wi) (h' : PI X tg e wi') : PI X tg e (fun σ H R => wi σ H R ∨ wi' σ H R) := ⟨fun pins s σ H R I q => by
  rcases q with q | q
  · exact h.run pins s σ H R I q
  · exact h'.run pins s σ H R I q⟩
/-- a list or a tuple -/
def asS : D → Res (List D)
  | .list xs => .ok xs
  | .tuple xs => .ok xs
  | _ => .bad
/-- whichever it is: the library's walk of a value -/
def iSeq (K : PySem.W.Frag) (tl : TE) : TI := fun σ H R => tl σ H fun x H1 => ∃ a, x = .ref a ∧ (((∃ xs, SqL K H1 a xs) ∧ R (Itl K a) H1) ∨ ((∃ xs, SqT K H1 a xs) ∧ R (Itt K a) H1))
theorem pi_seq {l : Expr} {tl : TE} (hl : PE X l tl) : PI X tg l (iSeq X.K tl) := by
  refine ⟨fun pins s σ H R I h => ?_⟩
  refine thn (hl.run pins s σ H _ I h) fun v s1 ⟨x, H1, I1, r1, q1⟩ => ?_
  obtain ⟨a, e, q⟩ := q1
  subst e
  cases r1
  rcases q with ⟨⟨xs, hq⟩, q⟩ | ⟨⟨xs, hq⟩, q⟩
  · obtain ⟨its, rv, p, hz⟩ := I1.list hq
    refine wpAny_pyIter_list p.isList ?_
    refine ⟨s1.heap.objs.size, [s1.heap.objs.size], _, _, H1, rfl, I1.kept (t' := s1.toks) fun b o e => Heap.get?_push_of_some _ e, turn_list a _, ⟨_, Heap.get?_push_size _ rfl, rfl, rfl⟩, fun b hb => ?_, q⟩
    have e : b = s1.heap.objs.size := by simpa using hb
    subst e
    exact I1.fpOk (Nat.le_refl _) (I1.hok.fresh (Nat.le_refl _))
  · obtain ⟨its, rv, p, hz⟩ := I1.tuple hq
    refine wpAny_pyIter_tuple (show s1.heap.IsTuple a its.toArray from p) ?_
    refine ⟨s1.heap.objs.size, [s1.heap.objs.size], _, _, H1, rfl, I1.kept (t' := s1.toks) fun b o e => Heap.get?_push_of_some _ e, turn_tuple a _, ⟨_, Heap.get?_push_size _ rfl, rfl, rfl⟩, fun b hb => ?_, q⟩
    have e : b = s1.heap.objs.size := by simpa using hb
    subst e
    exact I1.fpOk (Nat.le_refl _) (I1.hok.fresh (Nat.le_refl _))
theorem mi_seq (h : PE X a (tM X.K C va)) : PI X tg a (tI X.K C (va >>= fun d => M.lift (asS d))) := ⟨fun pins s σ H R I q => (pi_seq h).run pins s σ H R I (by
  obtain ⟨B, F, ρ, S, q⟩ := q
  refine tM.of S q.bind fun d ρ1 h1 v F1 H1 s1 S1 r1 => ?_
  cases d <;> try exact (RX.bad_elim h1 rfl).elim
  · obtain ⟨p, xs, rfl, fp, zx, r⟩ := r1
    exact ⟨p, rfl, .inl ⟨⟨xs, .inl (rd_same S1.fr fp)⟩, h1 _ F1 H1 s1 S1 (walks_list' fp r)⟩⟩
  · obtain ⟨p, xs, rfl, fp, zx, r⟩ := r1
    exact ⟨p, rfl, .inr ⟨⟨xs, .of (S1.fr _ _ fp)⟩, h1 _ F1 H1 s1 S1 (walks_tup fp r)⟩⟩)⟩
theorem walks_rng {K : PySem.W.Frag} {F : Hp} (lo hi : Int) : Walks K (Itr lo (hi - lo).toNat) F (rgD lo hi) := fun i H s => by
  have hl : (rgD lo hi).length = (hi - lo).toNat := by unfold rgD; rw [List.length_map, List.length_range]
  refine ⟨fun d e => ?_, fun e => by rw [hl] at e; exact e⟩
  have hlt := (List.getElem?_eq_some_iff.mp e).1
  rw [hl] at hlt
  refine ⟨hlt, fun x H' y => .inl ⟨y.1, ?_⟩⟩
  have e2 : d = .int (lo + (i : Nat)) := by
    unfold rgD at e
    rw [List.getElem?_map, List.getElem?_range hlt] at e
    exact (Option.some.inj e).symm
  subst e2
  exact y.2
def RgB (a b : Int) : Prop := -(2 ^ 62) ≤ a ∧ a < 2 ^ 62 ∧ -(2 ^ 62) ≤ b ∧ b < 2 ^ 62
instance (a b : Int) : Decidable (RgB a b) := by unfold RgB; infer_instance
def gRg (p : Int × Int) : Res (List D) := if RgB p.1 p.2 then .ok (rgD p.1 p.2) else .bad
theorem mi_rg1 (hm : X.mg "range" = none) (ha : PE X a (tL X.K C ma)) (hg : Gl X "range" := by rfl) (na : starEach [a] X.env = (false, eval a X.env) :: starEach [] X.env := by rfl) : PI X tg (.Call (.Name "range" p) [a] [] pos) (tI X.K C (eRg1 ma >>= fun p => M.lift (gRg p))) := ⟨fun pins s σ H R I q => (pi_range1 hg hm (pa_cons ha pa_nil na) (by rw [na]; rfl)).run pins s σ H R I (by
  obtain ⟨B, F, ρ, S, q⟩ := q
  have q1 := q.bind
  refine tL.of S q1.bind fun la ρ1 h1 v F1 H1 s1 S1 r1 => ?_
  obtain ⟨d, rd, h3⟩ := late_step S1 r1 h1
  obtain ⟨i, rfl, h4⟩ := asI_step h3
  have h5 : RX C B _ (M.lift (gRg (0, i)) ρ1) := h4
  by_cases z : RgB 0 i
  · refine ⟨i, by rw [rpv_int rd], z.2.2.1, z.2.2.2, ?_⟩
    unfold gRg at h5
    rw [if_pos z] at h5
    have w := walks_rng (K := X.K) (F := F1) 0 i
    rw [Int.sub_zero] at w
    exact h5 _ F1 H1 s1 S1 w
  · exact (RX.bad_elim h5 (by unfold gRg; rw [if_neg z])).elim)⟩
theorem mi_rg2 (hm : X.mg "range" = none) (ha : PE X a (tL X.K C ma)) (hb : PE X b (tL X.K C mb)) (hg : Gl X "range" := by rfl) (na : starEach [a, b] X.env = (false, eval a X.env) :: starEach [b] X.env := by rfl)
    (nb : starEach [b] X.env = (false, eval b X.env) :: starEach [] X.env := by rfl) : PI X tg (.Call (.Name "range" p) [a, b] [] pos) (tI X.K C (eRg2 ma mb >>= fun p => M.lift (gRg p))) := ⟨fun pins s σ H R I q => (pi_range2 hg hm (pa_cons ha (pa_cons hb pa_nil nb) na) (by rw [na, nb]; rfl) (by rw [nb]; rfl)).run pins s σ H R I (by
  obtain ⟨B, F, ρ, S, q⟩ := q
  have q1 := q.bind
  refine tL.of S q1.bind fun la ρ1 h1 v F1 H1 s1 S1 r1 => ?_
  refine tL.of S1 h1.bind fun lb ρ2 h2 u F2 H2 s2 S2 r2 => ?_
  obtain ⟨d, rd, h3⟩ := late_step S2 (r1.mono s2) h2
  obtain ⟨e, re, h4⟩ := late_step S2 r2 h3
  obtain ⟨i, rfl, h5⟩ := asI_step h4
  obtain ⟨j, rfl, h6⟩ := asI_step h5
  have h7 : RX C B _ (M.lift (gRg (i, j)) ρ2) := h6
  by_cases z : RgB i j
  · refine ⟨i, j, by rw [rpv_int rd, rpv_int re], z, ?_⟩
    unfold gRg at h7
    rw [if_pos z] at h7
    exact h7 _ F2 H2 (s1.trans s2) S2 (walks_rng i j)
  · exact (RX.bad_elim h7 (by unfold gRg; rw [if_neg z])).elim)⟩

/-! ### targets -/
/-- the slots but ts are as they were -/
def Chg (ts : List Nat) (σ σ' : L2.St) : Prop := σ'.length = σ.length ∧ ∀ j, j ∉ ts → σ'[j]? = σ[j]?
def tG (K : PySem.W.Frag) (C : SC) (ts : List Nat) (bd : D → M Unit) : TG := fun v σ H Q => ∃ B F ρ d, SR K C B F σ H ρ ∧ Rp K F d v ∧ RX C B (fun _ ρ' => ∀ σ', Chg ts σ σ' → SR K C B F σ' H ρ' → Q σ' H) (bd d ρ)
def setV (i : Nat) (d : D) : M Unit := fun ρ => if i < ρ.length then .ok ((), ρ.set i (.val d)) else .bad
theorem SR.setV {K : PySem.W.Frag} {C : SC} {B : Bs} {F : Hp} {σ : L2.St} {H : Hp} {ρ : En} (S : SR K C B F σ H ρ) {i : Nat} {d : D} {v : V} (ni : C.rf = none ∨ i ≠ 0) (r : Rp K F d v) : SR K C B F (σ.set i (some v)) H (ρ.set i (.val d)) := by
  have key : ∀ {j q}, OwnAt (σ.set i (some v)) (ρ.set i (.val d)) j q → OwnAt σ ρ j q := fun {j q} h => by
    obtain ⟨hj, s, e1, o, e2⟩ := own_set_val h
    rw [List.getElem?_set_ne (Ne.symm hj)] at e2
    exact ⟨s, e1, o, e2⟩
  refine ⟨S.fr, S.nf, S.kp, by simpa using S.len, fun j s w e1 e2 => ?_, fun j k q h1 h2 => S.ap j k q (key h1) (key h2), fun q hq => ?_⟩
  · by_cases hj : i = j
    · subst hj
      have hlt := (List.getElem?_eq_some_iff.mp e1).1
      rw [List.length_set] at hlt
      rw [List.getElem?_set_self hlt] at e1
      cases e1
      rw [List.getElem?_set_self (by have := S.len; omega)] at e2
      cases e2
      exact ⟨v, rfl, r⟩
    · rw [List.getElem?_set_ne hj] at e1 e2
      exact S.sl j s w e1 e2
  · obtain ⟨h1, ds', h2⟩ := S.rf q hq
    rcases ni with n | n
    · rw [n] at hq; cases hq
    · exact ⟨by rw [List.getElem?_set_ne n]; exact h1, ds', by rw [List.getElem?_set_ne n]; exact h2⟩
theorem chg_set {σ : L2.St} {i : Nat} {v : Option V} : Chg [i] σ (σ.set i v) := ⟨by simp, fun j hj => by rw [List.getElem?_set_ne]; intro e; subst e; exact hj (by simp)⟩
theorem chg_mono {ts ts' : List Nat} {σ σ' : L2.St} (h : Chg ts σ σ') (k : ∀ j ∈ ts, j ∈ ts') : Chg ts' σ σ' := ⟨h.1, fun j hj => h.2 j fun z => hj (k j z)⟩
theorem chg_trans {ts : List Nat} {σ σ' σ'' : L2.St} (h : Chg ts σ σ') (h' : Chg ts σ' σ'') : Chg ts σ σ'' := ⟨h'.1.trans h.1, fun j hj => (h'.2 j hj).trans (h.2 j hj)⟩
theorem mg_name (i : Nat) (ni : C.rf = none ∨ i ≠ 0) (hN : X.N.Nodup) (hi : X.N[i]? = some x := by rfl) (hx : Loc X.env.scope x := by first | exact .inl rfl | exact .inr rfl) (hf : X.fn x = true ∨ X.env.scope.names.lookup x = some .local := by first | exact .inl rfl | exact .inr rfl) : PG X (.Name x pos) (tG X.K C [i] (setV i)) := ⟨fun pins s σ H v u Q I r h => (pg_name hN hi hx hf).run pins s σ H v u Q I r (by
  obtain ⟨B, F, ρ, d, S, rd, q⟩ := h
  unfold setV at q
  by_cases z : i < ρ.length
  · rw [if_pos z] at q
    exact q _ chg_set (S.setV ni rd)
  · rw [if_neg z] at q
    exact q.elim)⟩
/-- several names in a row -/
def setVs : List Nat → List D → M Unit
  | [], [] => pure ()
  | i :: is, d :: ds => setV i d >>= fun _ => setVs is ds
  | _, _ => fun _ => .bad
def tGs (K : PySem.W.Frag) (C : SC) (ts : List Nat) : TGs := fun vs σ H Q => ∃ B F ρ ds, SR K C B F σ H ρ ∧ RpAll K F ds vs ∧ RX C B (fun _ ρ' => ∀ σ', Chg ts σ σ' → SR K C B F σ' H ρ' → Q σ' H) (setVs ts ds ρ)
theorem mgs_nil : PGs X [] (tGs X.K C []) := ⟨fun pins s σ H vs us Q I r h => pgs_nil.run pins s σ H vs us Q I r (by
  obtain ⟨B, F, ρ, ds, S, rd, q⟩ := h
  cases ds with
  | nil => exact ⟨rd, q σ ⟨rfl, fun _ _ => rfl⟩ S⟩
  | cons d ds => exact (show False from q).elim)⟩
theorem mgs_cons {es : List Expr} {i : Nat} {is : List Nat} (h1 : PG X a (tG X.K C [i] (setV i))) (h2 : PGs X es (tGs X.K C is)) (hs : (assignEach (a :: es) X.env).map (·.2) = assign a X.env :: (assignEach es X.env).map (·.2) := by rfl) : PGs X (a :: es) (tGs X.K C (i :: is)) := ⟨fun pins s σ H vs us Q I r h => (pgs_cons h1 h2 hs).run pins s σ H vs us Q I r (by
  obtain ⟨B, F, ρ, ds, S, rd, q⟩ := h
  cases ds with
  | nil => exact (show False from q).elim
  | cons d ds =>
    obtain ⟨v, vr, rfl, r1, r2⟩ := rd
    refine ⟨v, vr, rfl, B, F, ρ, d, S, r1, ?_⟩
    have q' : RX C B _ ((setV i d >>= fun _ => setVs is ds) ρ) := q
    refine q'.bind.imp fun _ ρ1 h1 σ1 c1 S1 => ?_
    exact ⟨B, F, ρ1, ds, S1, r2, h1.imp fun _ ρ2 h2 σ2 c2 S2 => h2 σ2 (chg_trans (chg_mono c1 (by simp)) (chg_mono c2 (fun j hj => List.mem_cons_of_mem _ hj))) S2⟩)⟩
def bdT (is : List Nat) : D → M Unit
  | .tuple ds => setVs is ds
  | .list ds => setVs is ds
  | _ => fun _ => .bad
theorem setVs_len {α : Type} {Φ : Unit → En → Prop} : ∀ {is : List Nat} {ds : List D} {ρ : En}, RX C B Φ (setVs is ds ρ) → ds.length = is.length
  | [], [], _, _ => rfl
  | i :: is, [], _, q => (show False from q).elim
  | [], d :: ds, _, q => (show False from q).elim
  | i :: is, d :: ds, ρ, q => by
    have q' : RX C B Φ ((setV i d >>= fun _ => setVs is ds) ρ) := q
    have q2 := q'.bind
    unfold setV at q2
    by_cases z : i < ρ.length
    · rw [if_pos z] at q2
      have := setVs_len (α := α) (show RX C B Φ (setVs is ds (ρ.set i (.val d))) from q2)
      simp [this]
    · rw [if_neg z] at q2
      exact q2.elim
theorem mg_tup {es : List Expr} {k : Nat} {is : List Nat} (hc : X.calm = true) (h : PGs X es (tGs X.K C is)) (hn : (assignEach es X.env).length = is.length := by rfl) (hst : (assignEach es X.env).findIdx? (·.1) = none := by rfl) : PG X (.Tuple es ctx pos) (tG X.K C is (bdT is)) := ⟨fun pins s σ H v u Q I r w => by
  obtain ⟨B, F, ρ, d, S, rd, q⟩ := w
  cases d <;> try exact (show False from q).elim
  · rename_i ds
    obtain ⟨a, xs, rfl, fa, z, r1⟩ := rd
    exact (pg_unl hc h hn hst).run pins s σ H _ u Q I r ⟨a, xs, rfl, .inl (rd_same S.fr fa), by rw [← r1.len]; exact setVs_len (α := Unit) q, B, F, ρ, ds, S, r1, q⟩
  · rename_i ds
    obtain ⟨a, xs, rfl, fa, z, r1⟩ := rd
    exact (pg_tup hc h hn hst).run pins s σ H _ u Q I r ⟨a, xs, rfl, .of (S.fr _ _ fa), by rw [← r1.len]; exact setVs_len (α := Unit) q, B, F, ρ, ds, S, r1, q⟩⟩
end
end VS

set_option Elab.async false
set_option linter.all false
set_option maxRecDepth 100000
set_option maxHeartbeats 4000000
namespace VS
open PySem PySem.Spec PyProof.Rows L2
/-! ### comprehensions -/
def SC.nox (C : SC) : SC := { C with Ex := fun _ _ => False }
def wipeE (ρ : En) : List Nat → En
  | [] => ρ
  | v :: vs => (wipeE ρ vs).set v .emp
def restE (ρ ρ2 : En) : List Nat → En
  | [] => ρ2
  | v :: vs => (restE ρ ρ2 vs).set v (ρ.getD v .emp)
def noOwn (ρ : En) (vs : List Nat) : Bool := vs.all fun v => !(ρ.getD v .emp).isOwn
def nx {α : Type} (m : M α) : M α := fun ρ => match m ρ with
  | .exc _ => .bad
  | r => r
def clr (vs : List Nat) : M Unit := fun ρ => .ok ((), wipeE ρ vs)
def lcGo (vs : List Nat) (bd : D → M Unit) (mt : M Bool) (me : M D) : List D → M (List D)
  | [] => pure []
  | d :: ds => bd d >>= fun _ => nx mt >>= fun b => if b = true then nx me >>= fun y => clr vs >>= fun _ => lcGo vs bd mt me ds >>= fun ys => pure (y :: ys) else clr vs >>= fun _ => lcGo vs bd mt me ds
def eLc (vs : List Nat) (mi : M (List D)) (bd : D → M Unit) (mt : M Bool) (me : M D) : M (List D) := mi >>= fun ds ρ1 =>
  if noOwn ρ1 vs = true ∧ ds.length ≤ sizeLine then (lcGo vs bd mt me ds (wipeE ρ1 vs)).bind fun p => .ok (p.1, restE ρ1 p.2 vs) else .bad
theorem nx_read {α β : Type} {C C' : SC} {B B' : Bs} {Φ : β → En → Prop} {Ψ : α → En → Prop} {m : M α} {f : α → M β} {ρ : En} (h : RX C B Φ ((nx m >>= f) ρ)) (k : ∀ a ρ1, RX C B Φ (f a ρ1) → Ψ a ρ1) : RX C' B' Ψ (m ρ) := by
  have h2 := h.bind
  unfold nx at h2
  cases e : m ρ with
  | ok p => rw [e] at h2; exact k _ _ h2
  | exc c => rw [e] at h2; exact h2.elim
  | bad => rw [e] at h2; exact h2.elim
theorem SR.nox {K : PySem.W.Frag} {C : SC} {B : Bs} {F H : Hp} {σ : L2.St} {ρ : En} (S : SR K C B F σ H ρ) : SR K C.nox B F σ H ρ := ⟨S.fr, S.nf, S.kp, S.len, S.sl, S.ap, S.rf⟩
theorem SR.unnox {K : PySem.W.Frag} {C : SC} {B : Bs} {F H : Hp} {σ : L2.St} {ρ : En} (S : SR K C.nox B F σ H ρ) : SR K C B F σ H ρ := ⟨S.fr, S.nf, S.kp, S.len, S.sl, S.ap, S.rf⟩
section
variable {K : PySem.W.Frag} {C : SC} {B : Bs} {F F' H H' : Hp} {σ σ' : L2.St} {ρ ρ2 : En}
theorem wipeE_len (vs : List Nat) : (wipeE ρ vs).length = ρ.length := by
  induction vs with
  | nil => rfl
  | cons v vs ih => unfold wipeE; rw [List.length_set, ih]
theorem SR.emp (S : SR K C B F σ H ρ) {i : Nat} {v : Option V} (ni : C.rf = none ∨ i ≠ 0) : SR K C B F (σ.set i v) H (ρ.set i .emp) := by
  have key : ∀ {j q}, OwnAt (σ.set i v) (ρ.set i .emp) j q → OwnAt σ ρ j q := fun {j q} h => by
    obtain ⟨s, e1, o, e2⟩ := h
    by_cases hj : i = j
    · subst hj
      have hlt := (List.getElem?_eq_some_iff.mp e1).1
      rw [List.length_set] at hlt
      rw [List.getElem?_set_self hlt] at e1; cases e1; cases o
    · rw [List.getElem?_set_ne hj] at e1 e2
      exact ⟨s, e1, o, e2⟩
  refine ⟨S.fr, S.nf, S.kp, by simpa using S.len, fun j s w e1 e2 => ?_, fun j k q h1 h2 => S.ap j k q (key h1) (key h2), fun q hq => ?_⟩
  · by_cases hj : i = j
    · subst hj
      have hlt := (List.getElem?_eq_some_iff.mp e1).1
      rw [List.length_set] at hlt
      rw [List.getElem?_set_self hlt] at e1
      cases e1
      trivial
    · rw [List.getElem?_set_ne hj] at e1 e2
      exact S.sl j s w e1 e2
  · obtain ⟨h1, ds', h2⟩ := S.rf q hq
    rcases ni with n | n
    · rw [n] at hq; cases hq
    · exact ⟨by rw [List.getElem?_set_ne n]; exact h1, ds', by rw [List.getElem?_set_ne n]; exact h2⟩
theorem SR.wipe (S : SR K C B F σ H ρ) : ∀ {vs : List Nat}, (∀ v ∈ vs, C.rf = none ∨ v ≠ 0) → SR K C B F (wipe σ vs) H (wipeE ρ vs)
  | [], _ => S
  | v :: vs, h => (SR.wipe S fun u hu => h u (List.mem_cons_of_mem _ hu)).emp (h v List.mem_cons_self)
theorem wipe_get {σ : L2.St} {j : Nat} : ∀ {vs : List Nat}, j ∉ vs → (wipe σ vs)[j]? = σ[j]?
  | [], _ => rfl
  | v :: vs, h => by
    unfold wipe
    rw [List.getElem?_set_ne (by intro e; subst e; exact h List.mem_cons_self)]
    exact wipe_get fun z => h (List.mem_cons_of_mem _ z)
theorem wipe_in {σ : L2.St} {j : Nat} : ∀ {vs : List Nat}, j ∈ vs → j < σ.length → (wipe σ vs)[j]? = some none
  | v :: vs, h, l => by
    unfold wipe
    by_cases e : v = j
    · subst e
      rw [List.getElem?_set_self (by rw [wipe_length]; exact l)]
    · rw [List.getElem?_set_ne e]
      exact wipe_in ((List.mem_cons.mp h).resolve_left fun z => e z.symm) l
theorem wipe_chg {σ σ' : L2.St} {vs : List Nat} (h : Chg vs (wipe σ vs) σ') : wipe σ' vs = wipe σ vs := by
  have hl : σ'.length = σ.length := h.1.trans (wipe_length σ vs)
  apply List.ext_getElem?
  intro j
  by_cases hj : j ∈ vs
  · by_cases l : j < σ.length
    · rw [wipe_in hj (by omega), wipe_in hj l]
    · rw [List.getElem?_eq_none (by rw [wipe_length]; omega), List.getElem?_eq_none (by rw [wipe_length]; omega)]
  · rw [wipe_get hj, h.2 j hj]
theorem restE_len (vs : List Nat) : (restE ρ ρ2 vs).length = ρ2.length := by
  induction vs with
  | nil => rfl
  | cons v vs ih => unfold restE; rw [List.length_set, ih]
theorem restE_get {j : Nat} : ∀ {vs : List Nat}, j ∉ vs → (restE ρ ρ2 vs)[j]? = ρ2[j]?
  | [], _ => rfl
  | v :: vs, h => by
    unfold restE
    rw [List.getElem?_set_ne (by intro e; subst e; exact h List.mem_cons_self)]
    exact restE_get fun z => h (List.mem_cons_of_mem _ z)
theorem restE_in {j : Nat} : ∀ {vs : List Nat}, j ∈ vs → j < ρ2.length → (restE ρ ρ2 vs)[j]? = some (ρ.getD j .emp)
  | v :: vs, h, l => by
    unfold restE
    by_cases e : v = j
    · subst e
      rw [List.getElem?_set_self (by rw [restE_len]; exact l)]
    · rw [List.getElem?_set_ne e]
      exact restE_in ((List.mem_cons.mp h).resolve_left fun z => e z.symm) l
open Classical in
/-- all that is there now, but what is one's own, is kept from now on -/
theorem SR.rebase (S : SR K C B F σ H ρ) : ∃ B', SR K C B' F σ H ρ ∧ (∀ F3 σ3 H3 ρ3, SR K C B' F3 σ3 H3 ρ3 → SR K C B F3 σ3 H3 ρ3) ∧
    (∀ p u, H p = some u → NT u → F p = none → (∀ i, ¬ OwnAt σ ρ i p) → ∀ F3 σ3 H3 ρ3, SR K C B' F3 σ3 H3 ρ3 → H3 p = some u ∧ F3 p = none ∧ ∀ i, ¬ OwnAt σ3 ρ3 i p) := by
  let Bb : Hp := fun a => if ∃ j, OwnAt σ ρ j a then none else H a
  have own : ∀ {i p}, OwnAt σ ρ i p → Bb p = none := fun {i p} h => if_pos ⟨i, h⟩
  have nown : ∀ {p}, (∀ i, ¬ OwnAt σ ρ i p) → Bb p = H p := fun {p} h => if_neg fun ⟨i, q⟩ => h i q
  have at_ : ∀ {i s v}, ρ[i]? = some s → σ[i]? = some v → SlOk K C B F H s v → SlOk K C ⟨Bb, F⟩ F H s v := fun {i s v} e1 e2 q => by
    cases s with
    | emp => trivial
    | val d => exact q
    | scr _ => exact q
    | own ds =>
      obtain ⟨p, xs, rfl, h1, r, ⟨f, _⟩, z⟩ := q
      exact ⟨p, xs, rfl, h1, r, ⟨f, .inl (own ⟨_, e1, rfl, e2⟩)⟩, z⟩
    | dT ds =>
      obtain ⟨p, xs, rfl, h1, r, ⟨f, _⟩⟩ := q
      exact ⟨p, xs, rfl, h1, r, ⟨f, .inl (own ⟨_, e1, rfl, e2⟩)⟩⟩
    | dK ds =>
      obtain ⟨p, xs, rfl, h1, r, ⟨f, _⟩⟩ := q
      exact ⟨p, xs, rfl, h1, r, ⟨f, .inl (own ⟨_, e1, rfl, e2⟩)⟩⟩
  have ownB : ∀ {i p}, OwnAt σ ρ i p → B.b p = none ∨ C.rf = some p := fun {i p} ⟨s, e1, o, e2⟩ => by
    have q := S.sl i s _ e1 e2
    cases s with
    | emp => cases o
    | val d => cases o
    | scr _ => cases o
    | own ds => obtain ⟨p, xs, e, h1, r, ⟨f, b⟩, z⟩ := q; cases e; exact b
    | dT ds => obtain ⟨p, xs, e, h1, r, ⟨f, b⟩⟩ := q; cases e; exact b
    | dK ds => obtain ⟨p, xs, e, h1, r, ⟨f, b⟩⟩ := q; cases e; exact b
  have none_ : ∀ {p}, Bb p = none → B.b p = none ∨ C.rf = some p := fun {p} h => by
    by_cases o : ∃ j, OwnAt σ ρ j p
    · obtain ⟨j, o⟩ := o
      exact ownB o
    · rw [show Bb p = H p from if_neg o] at h
      exact .inl (S.fresh h).2
  have some_ : ∀ {p u}, B.b p = some u → C.rf ≠ some p → Bb p = some u := fun {p u} h r => by
    rw [nown]
    · exact S.kp p u h r
    · intro i o
      rcases ownB o with q | q
      · rw [h] at q; cases q
      · exact r q
  have rfn : ∀ {F3 σ3 H3 ρ3 p}, SR K C ⟨Bb, F⟩ F3 σ3 H3 ρ3 → C.rf = some p → F3 p = none := fun {F3 σ3 H3 ρ3 p} S3 h => by
    obtain ⟨e1, ds, e2⟩ := S3.rf p h
    obtain ⟨q, xs, e3, e4, _, ⟨e5, _⟩, _⟩ := S3.sl 0 _ _ e2 e1
    cases e3
    exact e5
  refine ⟨⟨Bb, F⟩, ⟨S.fr, fun a u _ _ f => f, fun a o e r => ?_, S.len, fun i s v e1 e2 => at_ e1 e2 (S.sl i s v e1 e2), S.ap, S.rf⟩, fun F3 σ3 H3 ρ3 S3 => ?_, fun p u hp nt fp no F3 σ3 H3 ρ3 S3 => ?_⟩
  · have e' : (if ∃ j, OwnAt σ ρ j a then none else H a) = some o := e
    by_cases h : ∃ j, OwnAt σ ρ j a
    · rw [if_pos h] at e'; cases e'
    · rw [if_neg h] at e'; exact e'
  · refine ⟨S3.fr, fun a u e nt f => ?_, fun a o e r => S3.kp a o (some_ e r) r, S3.len, fun i s v e1 e2 => ?_, S3.ap, S3.rf⟩
    · by_cases r : C.rf = some a
      · exact rfn S3 r
      · exact S3.nf a u (some_ e r) nt (S.nf a u e nt f)
    · have q := S3.sl i s v e1 e2
      cases s with
      | emp => trivial
      | val d => exact q
      | scr _ => exact q
      | own ds =>
        obtain ⟨p, xs, rfl, h1, r, ⟨f, b⟩, z⟩ := q
        exact ⟨p, xs, rfl, h1, r, ⟨f, b.elim none_ .inr⟩, z⟩
      | dT ds =>
        obtain ⟨p, xs, rfl, h1, r, ⟨f, b⟩⟩ := q
        exact ⟨p, xs, rfl, h1, r, ⟨f, b.elim none_ .inr⟩⟩
      | dK ds =>
        obtain ⟨p, xs, rfl, h1, r, ⟨f, b⟩⟩ := q
        exact ⟨p, xs, rfl, h1, r, ⟨f, b.elim none_ .inr⟩⟩
  · have hb : Bb p = some u := (nown no).trans hp
    have hr : C.rf ≠ some p := fun r => by
      obtain ⟨e1, ds, e2⟩ := S.rf p r
      exact no 0 ⟨_, e2, rfl, e1⟩
    refine ⟨S3.kp p u hb hr, S3.nf p u hb nt fp, fun i o => ?_⟩
    obtain ⟨s, e1, os, e2⟩ := o
    have q := S3.sl i s _ e1 e2
    have b : Bb p = none ∨ C.rf = some p := by
      cases s with
      | emp => cases os
      | val d => cases os
      | scr _ => cases os
      | own ds => obtain ⟨p, xs, e, h1, r, ⟨f, b⟩, z⟩ := q; cases e; exact b
      | dT ds => obtain ⟨p, xs, e, h1, r, ⟨f, b⟩⟩ := q; cases e; exact b
      | dK ds => obtain ⟨p, xs, e, h1, r, ⟨f, b⟩⟩ := q; cases e; exact b
    rcases b with b | b
    · rw [hb] at b; cases b
    · exact hr b
/-- an object that nobody holds is changed -/
theorem SR.updFree (S : SR K C B F σ H ρ) {p : Addr} {o : HO} (fp : F p = none) (bp : B.b p = none) (no : ∀ i, ¬ OwnAt σ ρ i p) : SR K C B F σ (upd H p o) ρ :=
  ⟨fun a u e => by rw [upd_ne (ne_of_none e fp)]; exact S.fr _ _ e, S.nf, fun a u e r => by rw [upd_ne (ne_of_none e bp)]; exact S.kp a u e r, S.len, fun i s v e1 e2 => (S.sl i s v e1 e2).mono (Same.refl _) (fun q u e os h => by
    rw [upd_ne]
    · exact h
    · rintro rfl
      exact no i ⟨s, e1, os, by rw [e2, e]⟩) (fun _ _ _ n => n), S.ap, S.rf⟩
/-- back from the block: the block's own names have their elder values -/
theorem SR.rest {vs : List Nat} (S : SR K C B F σ H ρ) (S2 : SR K C B F' (L2.wipe σ vs) H' ρ2) (s : Same F F') (n : noOwn ρ vs = true) (ni : ∀ v ∈ vs, C.rf = none ∨ v ≠ 0) : SR K C B F' σ H' (restE ρ ρ2 vs) := by
  have l2 : ρ2.length = ρ.length := by rw [← S2.len, wipe_length, S.len]
  have no : ∀ v ∈ vs, (ρ.getD v .emp).isOwn = false := fun v hv => by
    have := List.all_eq_true.mp n v hv
    simpa using this
  have key : ∀ {j q}, OwnAt σ (restE ρ ρ2 vs) j q → OwnAt (L2.wipe σ vs) ρ2 j q := fun {j q} h => by
    obtain ⟨s, e1, o, e2⟩ := h
    have hlt := (List.getElem?_eq_some_iff.mp e1).1
    rw [restE_len] at hlt
    by_cases hj : j ∈ vs
    · rw [restE_in hj hlt] at e1
      cases e1
      rw [no j hj] at o; cases o
    · rw [restE_get hj] at e1
      exact ⟨s, e1, o, by rw [wipe_get hj]; exact e2⟩
  refine ⟨S2.fr, S2.nf, S2.kp, by rw [restE_len, l2]; exact S.len, fun j s' w e1 e2 => ?_, fun j k q h1 h2 => S2.ap j k q (key h1) (key h2), fun q hq => ?_⟩
  · have hlt := (List.getElem?_eq_some_iff.mp e1).1
    rw [restE_len] at hlt
    by_cases hj : j ∈ vs
    · rw [restE_in hj hlt] at e1
      have n1 := no j hj
      cases e3 : ρ[j]? with
      | none => rw [List.getElem?_eq_none_iff] at e3; omega
      | some t =>
        have e4 : ρ.getD j .emp = t := by rw [List.getD_eq_getElem?_getD, e3]; rfl
        rw [e4] at e1 n1
        cases e1
        have q := S.sl j _ _ e3 e2
        cases s' with
        | emp => trivial
        | val d =>
          obtain ⟨x, ex, r⟩ := q
          exact ⟨x, ex, r.mono s⟩
        | scr ns =>
          obtain ⟨x, ex, r⟩ := q
          exact ⟨x, ex, s.seq r⟩
        | own _ => cases n1
        | dT _ => cases n1
        | dK _ => cases n1
    · rw [restE_get hj] at e1
      exact S2.sl j s' w e1 (by rw [wipe_get hj]; exact e2)
  · obtain ⟨h1, ds', h2⟩ := S2.rf q hq
    have h0 : 0 ∉ vs := fun z => by
      rcases ni 0 z with e | e
      · rw [e] at hq; cases hq
      · exact e rfl
    rw [wipe_get h0] at h1
    exact ⟨h1, ds', by rw [restE_get h0]; exact h2⟩
end
section
variable {X : Cx} {C : SC} {B : Bs} {elt tg iter : Expr} {ifs : List Expr} {scope : Scope} {own : List (Str × Nat)} {pos spos : Pos} {mi : M (List D)} {bd : D → M Unit} {mt : M Bool} {me : M D} {is : List Nat}
def mYes : M Bool := pure true
theorem mts_nil : PTs X [] (tB X.K C mYes) := ⟨fun pins s σ H Q I h => pts_nil.run pins s σ H Q I (by
  obtain ⟨B, F, ρ, S, q⟩ := h
  exact q F H (Same.refl _) S)⟩
theorem mts_one {c : Expr} (h : PT X c (tB X.K C mt)) : PTs X [c] (tB X.K C mt) := pts_one h
theorem wipeE_get {ρ : En} {j : Nat} : ∀ {vs : List Nat}, j ∉ vs → (wipeE ρ vs)[j]? = ρ[j]?
  | [], _ => rfl
  | v :: vs, h => by
    unfold wipeE
    rw [List.getElem?_set_ne (by intro e; subst e; exact h List.mem_cons_self)]
    exact wipeE_get fun z => h (List.mem_cons_of_mem _ z)
theorem eLc_read (hbd : ∀ d ρ c, bd d ρ ≠ .exc c) {vs : List Nat} {σ : L2.St} {H : Hp} {Q : VK} (hts : ∀ i ∈ is, i ∈ vs) (ni : ∀ v ∈ vs, C.rf = none ∨ v ≠ 0) (q : tO X.K C (eLc vs mi bd mt me) σ H Q) : tLc (tI X.K C mi) (tG X.K C.nox is bd) (tB X.K C.nox mt) (tM X.K C.nox me) vs σ H Q := by
  obtain ⟨B, F, ρ, S, q⟩ := q
  refine ⟨B, F, ρ, S, q.bind.imp fun ds ρ1 h1 J F1 H1 s1 S1 w => ?_⟩
  by_cases no : noOwn ρ1 vs = true ∧ ds.length ≤ sizeLine
  case neg =>
    have h1' : RX C B (PO X.K C B σ F Q) (if noOwn ρ1 vs = true ∧ ds.length ≤ sizeLine then (lcGo vs bd mt me ds (wipeE ρ1 vs)).bind fun p => .ok (p.1, restE ρ1 p.2 vs) else .bad) := h1
    rw [if_neg no] at h1'
    exact h1'.elim
  have h2 : RX C B (PO X.K C B σ F Q) (((lcGo vs bd mt me ds (wipeE ρ1 vs)).bind fun p => .ok (p.1, restE ρ1 p.2 vs))) := by
    have h1' : RX C B (PO X.K C B σ F Q) (if noOwn ρ1 vs = true ∧ ds.length ≤ sizeLine then (lcGo vs bd mt me ds (wipeE ρ1 vs)).bind fun p => .ok (p.1, restE ρ1 p.2 vs) else .bad) := h1
    rw [if_pos no] at h1'
    exact h1'
  obtain ⟨no, few⟩ := no
  have h3 : RX C B (fun ys ρ2 => PO X.K C B σ F Q ys (restE ρ1 ρ2 vs)) (lcGo vs bd mt me ds (wipeE ρ1 vs)) := by
    cases e : lcGo vs bd mt me ds (wipeE ρ1 vs) with
    | ok p => rw [e] at h2; exact h2
    | exc c => rw [e] at h2; exact h2
    | bad => rw [e] at h2; exact h2
  intro Dn nD
  have fD := S1.fresh nD
  let Inv' : Nat → Hp → Prop := fun i H' => ∃ F' ρ' acc xs, Same F1 F' ∧ SR X.K C B F' (wipe σ vs) H' ρ' ∧ F' Dn = none ∧ (∀ j, ¬ OwnAt (wipe σ vs) ρ' j Dn) ∧ H' Dn = some (.lst xs) ∧ xs.length ≤ i ∧ RpAll X.K F' acc xs ∧
      RX C B (fun ys ρ2 => PO X.K C B σ F Q (acc ++ ys) (restE ρ1 ρ2 vs)) (lcGo vs bd mt me (ds.drop i) ρ')
  refine ⟨fun i m H' => m = ds.length - i ∧ i ≤ ds.length ∧ Inv' i H', ⟨ds.length, by simp, Nat.zero_le _, F1, wipeE ρ1 vs, [], [], Same.refl _, (S1.alloc0 nD).wipe ni, fD.1, fun j o => ?_, upd_same, Nat.zero_le _, rfl, h3⟩, ?_⟩
  · obtain ⟨u, hu⟩ := own_there (S1.wipe ni) o
    rw [nD] at hu; cases hu
  rintro i m H' ⟨rfl, hi, F', ρ', acc, xs, sf, S', fd, nown, hD, hx, ra, q'⟩
  have wi := w i H' (fun b o e => S'.fr _ _ (sf _ _ e))
  by_cases hlt : i < ds.length
  · obtain ⟨d, ed⟩ : ∃ d, ds[i]? = some d := ⟨ds[i], by simp [hlt]⟩
    obtain ⟨go, yl⟩ := wi.1 d ed
    refine .inr ⟨go, fun H'' => Inv' (i + 1) H'', fun H'' h => ⟨ds.length - (i + 1), by omega, rfl, hlt, h⟩, fun x H2 y => ?_⟩
    have drop : ds.drop i = d :: ds.drop (i + 1) := by
      rw [List.drop_eq_getElem_cons hlt]
      congr 1
      have := List.getElem?_eq_getElem hlt
      rw [ed] at this
      exact (Option.some.inj this).symm
    rw [drop] at q'
    obtain ⟨B', Sb, back, keep⟩ := S'.rebase
    obtain ⟨F2, s2, S2, r2⟩ := Yields.sr sf Sb (yl x H2 y)
    have kp := keep Dn _ hD (fun _ z => nomatch z) fd nown
    have q1 : RX C B (fun ys ρ2 => PO X.K C B σ F Q (acc ++ ys) (restE ρ1 ρ2 vs)) ((bd d >>= fun _ => nx mt >>= fun b => if b = true then nx me >>= fun y => clr vs >>= fun _ => lcGo vs bd mt me (ds.drop (i + 1)) >>= fun ys => pure (y :: ys) else clr vs >>= fun _ => lcGo vs bd mt me (ds.drop (i + 1))) ρ') := q'
    have q2 := q1.bind
    refine ⟨B', F2, ρ', d, S2.nox, r2, ?_⟩
    cases eb : bd d ρ' with
    | bad => rw [eb] at q2; exact q2.elim
    | exc c =>
      exact absurd eb (hbd d ρ' c)
    | ok pr =>
      obtain ⟨u, ρ3⟩ := pr
      rw [eb] at q2
      intro σ3 chg S3
      have wq : wipe σ3 vs = wipe σ vs := wipe_chg (chg_mono chg hts)
      refine ⟨wq, B', F2, ρ3, S3, ?_⟩
      refine nx_read q2 fun b ρ4 q3 F4 H4 s4 S4 => ?_
      -- the turn's end, from a state behind it
      have fin : ∀ {F5 H5 ρ5 xs' acc'}, Same F2 F5 → SR X.K C B F5 σ3 H5 ρ5 → F5 Dn = none → (∀ j, ¬ OwnAt σ3 ρ5 j Dn) → H5 Dn = some (.lst xs') → xs'.length ≤ i + 1 → RpAll X.K F5 acc' xs' →
          RX C B (fun ys ρ2 => PO X.K C B σ F Q (acc' ++ ys) (restE ρ1 ρ2 vs)) (lcGo vs bd mt me (ds.drop (i + 1)) (wipeE ρ5 vs)) → Inv' (i + 1) H5 := fun {F5 H5 ρ5 xs' acc'} s5 S5 f5 n5 h5 l5 r5 q5 => by
        have S6 := S5.wipe ni
        rw [wq] at S6
        refine ⟨F5, wipeE ρ5 vs, acc', xs', sf.trans (s2.trans s5), S6, f5, fun j o => ?_, h5, l5, r5, q5⟩
        obtain ⟨s, e1, os, e2⟩ := o
        by_cases hj : j ∈ vs
        · have hl := (List.getElem?_eq_some_iff.mp e2).1
          rw [wipe_length] at hl
          rw [wipe_in hj hl] at e2; cases e2
        · rw [← wq, wipe_get hj] at e2
          rw [wipeE_get hj] at e1
          exact n5 j ⟨s, e1, os, e2⟩
      cases b with
      | false =>
        have q4 : RX C B _ ((clr vs >>= fun _ => lcGo vs bd mt me (ds.drop (i + 1))) ρ4) := q3
        have k4 := kp _ _ _ _ S4.unnox
        exact fin s4 (back _ _ _ _ S4.unnox) k4.2.1 k4.2.2 k4.1 (by omega) (ra.mono (s2.trans s4)) q4
      | true =>
        refine ⟨B', F4, ρ4, S4, ?_⟩
        have q4 : RX C B _ ((nx me >>= fun y => clr vs >>= fun _ => lcGo vs bd mt me (ds.drop (i + 1)) >>= fun ys => pure (y :: ys)) ρ4) := q3
        refine nx_read q4 fun yd ρ5 q5 v F5 H5 s5 S5 r5 => ?_
        have k5 := kp _ _ _ _ S5.unnox
        have S5b := back _ _ _ _ S5.unnox
        refine ⟨xs, k5.1, by omega, ?_⟩
        refine fin (s4.trans s5) (S5b.updFree k5.2.1 fD.2 k5.2.2) k5.2.1 k5.2.2 upd_same (by simp; omega) ((ra.mono (s2.trans (s4.trans s5))).append (.cons r5 .nil)) ?_
        have q6 : RX C B _ ((lcGo vs bd mt me (ds.drop (i + 1)) >>= fun ys => pure (yd :: ys)) (wipeE ρ5 vs)) := q5
        refine q6.bind.imp fun ys ρ6 q7 => ?_
        rw [List.append_assoc]
        exact q7
  · have e : i = ds.length := by omega
    subst e
    refine .inl ⟨wi.2 (Nat.le_refl _), ?_⟩
    rw [List.drop_length] at q'
    have q1 : PO X.K C B σ F Q (acc ++ []) (restE ρ1 ρ' vs) := q'
    rw [List.append_nil] at q1
    refine q1 Dn xs F' H' (s1.trans sf) (S1.rest S' sf no ni) fd fD.2 (fun j o => ?_) hD (by omega) ra
    obtain ⟨s, e1, os, e2⟩ := o
    have hlt' := (List.getElem?_eq_some_iff.mp e1).1
    rw [restE_len] at hlt'
    by_cases hj : j ∈ vs
    · rw [restE_in hj hlt'] at e1
      cases e1
      have := List.all_eq_true.mp no j hj
      rw [os] at this
      cases this
    · rw [restE_get hj] at e1
      exact nown j ⟨s, e1, os, by rw [wipe_get hj]; exact e2⟩
/-- [elt for target in iter if ..] -/
theorem m_lcO (hbd : ∀ d ρ c, bd d ρ ≠ .exc c) (hts : ∀ i ∈ is, i ∈ own.map (·.2)) (ni : ∀ v ∈ own.map (·.2), C.rf = none ∨ v ≠ 0) (hc : X.calm = true) (hN : X.N.Nodup) (hi : PI X tg iter (tI X.K C mi)) (ok : BlkOk X.N X.env.scope scope own)
    (hg : ∀ (s : Shared) (H : Hp) (L : Addr) (cl : List (Str × Addr)) (fp : List Addr), PG (X.blk s H scope (compEnvC scope cl L X.env) fp) tg (tG X.K C.nox is bd)) (ht : ∀ (s : Shared) (H : Hp) (L : Addr) (cl : List (Str × Addr)) (fp : List Addr), PTs (X.blk s H scope (compEnvC scope cl L X.env) fp) ifs (tB X.K C.nox mt))
    (he : ∀ (s : Shared) (H : Hp) (L : Addr) (cl : List (Str × Addr)) (fp : List Addr), PE (X.blk s H scope (compEnvC scope cl L X.env) fp) elt (tM X.K C.nox me)) (hs : ∀ x, foldedSetIterable iter X.env x = pure x := by intro _; rfl) :
    PE X (.ListComp elt [⟨tg, iter, ifs, 0⟩] scope pos) (tO X.K C (eLc (own.map (·.2)) mi bd mt me)) :=
  pe_imp (pe_lc hc hN hi ok hg ht he hs) fun σ H Q h => eLc_read hbd hts ni h
theorem setV_exc {i : Nat} {d : D} {ρ : En} {c : Str} : setV i d ρ ≠ .exc c := by unfold setV; split <;> exact fun h => nomatch h
theorem setVs_exc : ∀ {is : List Nat} {ds : List D} {ρ : En} {c : Str}, setVs is ds ρ ≠ .exc c
  | [], [], _, _ => fun h => nomatch h
  | i :: is, [], _, _ => fun h => nomatch h
  | [], d :: ds, _, _ => fun h => nomatch h
  | i :: is, d :: ds, ρ, c => by
    show (setV i d ρ).bind (fun p => setVs is ds p.2) ≠ .exc c
    cases e : setV i d ρ with
    | ok p => exact setVs_exc
    | exc c => exact absurd e setV_exc
    | bad => exact fun h => nomatch h
theorem bdT_exc {is : List Nat} {d : D} {ρ : En} {c : Str} : bdT is d ρ ≠ .exc c := by
  cases d <;> first | exact setVs_exc | exact fun h => nomatch h
end
end VS

set_option Elab.async false
set_option linter.all false
set_option maxRecDepth 100000
set_option maxHeartbeats 4000000
namespace VS
open PySem PySem.Spec PyProof.Rows L2
section
variable {K : PySem.W.Frag} {C : SC} {B : Bs} {F F' H H' : Hp} {σ σ' : L2.St} {ρ ρ2 : En}
/-- a new list that nobody holds goes into a slot -/
theorem SR.setO (S : SR K C B F σ H ρ) {i : Nat} {p : Addr} {xs : List V} {ds : List D} (ni : C.rf = none ∨ i ≠ 0) (fp : F p = none) (bp : B.b p = none) (no : ∀ i, ¬ OwnAt σ ρ i p) (hp : H p = some (.lst xs)) (z : xs.length ≤ sizeLine) (r : RpAll K F ds xs) :
    SR K C B F (σ.set i (some (.ref p))) H (ρ.set i (.own ds)) := by
  have key : ∀ {j q}, OwnAt (σ.set i (some (.ref p))) (ρ.set i (.own ds)) j q → (j = i ∧ q = p) ∨ (j ≠ i ∧ OwnAt σ ρ j q) := fun {j q} h => by
    obtain ⟨s, e1, o, e2⟩ := h
    by_cases hj : i = j
    · subst hj
      have hlt := (List.getElem?_eq_some_iff.mp e2).1
      rw [List.length_set] at hlt
      rw [List.getElem?_set_self hlt] at e2
      cases e2
      exact .inl ⟨rfl, rfl⟩
    · rw [List.getElem?_set_ne hj] at e1 e2
      exact .inr ⟨Ne.symm hj, s, e1, o, e2⟩
  refine ⟨S.fr, S.nf, S.kp, by simpa using S.len, fun j s w e1 e2 => ?_, fun j k q h1 h2 => ?_, fun q hq => ?_⟩
  · by_cases hj : i = j
    · subst hj
      have hlt := (List.getElem?_eq_some_iff.mp e1).1
      rw [List.length_set] at hlt
      rw [List.getElem?_set_self hlt] at e1
      cases e1
      rw [List.getElem?_set_self (by have := S.len; omega)] at e2
      cases e2
      exact ⟨p, xs, rfl, hp, r, ⟨fp, .inl bp⟩, z⟩
    · rw [List.getElem?_set_ne hj] at e1 e2
      exact S.sl j s w e1 e2
  · rcases key h1 with ⟨rfl, rfl⟩ | ⟨n1, o1⟩
    · rcases key h2 with ⟨rfl, _⟩ | ⟨n2, o2⟩
      · rfl
      · exact (no _ o2).elim
    · rcases key h2 with ⟨rfl, rfl⟩ | ⟨n2, o2⟩
      · exact (no _ o1).elim
      · exact S.ap j k q o1 o2
  · obtain ⟨h1, ds', h2⟩ := S.rf q hq
    rcases ni with n | n
    · rw [n] at hq; cases hq
    · exact ⟨by rw [List.getElem?_set_ne n]; exact h1, ds', by rw [List.getElem?_set_ne n]; exact h2⟩
/-- an own list is changed -/
theorem SR.updOwn (S : SR K C B F σ H ρ) {i : Nat} {ds : List D} (e : ρ[i]? = some (.own ds)) : ∃ p xs, σ[i]? = some (some (.ref p)) ∧ H p = some (.lst xs) ∧ xs.length ≤ sizeLine ∧ RpAll K F ds xs ∧ F p = none ∧
    ∀ {F' H' ds' xs'}, SR K C B F' σ H' ρ → H' p = some (.lst xs) → xs'.length ≤ sizeLine → RpAll K F' ds' xs' → SR K C B F' σ (upd H' p (.lst xs')) (ρ.set i (.own ds')) := by
  have hlt := (List.getElem?_eq_some_iff.mp e).1
  have hl := S.len
  have ev : ∃ v, σ[i]? = some v := ⟨σ[i]'(by omega), by simp⟩
  obtain ⟨v, ev⟩ := ev
  obtain ⟨p, xs, ex, hp, r, ⟨fp, bp⟩, z⟩ := S.sl i _ _ e ev
  subst ex
  refine ⟨p, xs, ev, hp, z, r, fp, fun {F' H' ds' xs'} S' h' z' r' => ?_⟩
  obtain ⟨p', xs2, ex, hp', r2, ⟨fp', bp'⟩, z2⟩ := S'.sl i _ _ e ev
  cases ex
  have oi : OwnAt σ ρ i p := ⟨_, e, rfl, ev⟩
  have key : ∀ {j q}, OwnAt σ (ρ.set i (.own ds')) j q → OwnAt σ ρ j q := fun {j q} h => by
    obtain ⟨s, e1, o, e2⟩ := h
    by_cases hj : i = j
    · subst hj
      exact ⟨_, e, rfl, e2⟩
    · rw [List.getElem?_set_ne hj] at e1
      exact ⟨s, e1, o, e2⟩
  refine ⟨fun a u ea => by rw [upd_ne (ne_of_none ea fp')]; exact S'.fr _ _ ea, S'.nf, fun a u ea ra => ?_, by simpa using S'.len, fun j s w e1 e2 => ?_, fun j k q h1 h2 => S'.ap j k q (key h1) (key h2), fun q hq => ?_⟩
  · rw [upd_ne]
    · exact S'.kp a u ea ra
    · rintro rfl
      rcases bp' with b | b
      · rw [b] at ea; cases ea
      · exact ra b
  · by_cases hj : i = j
    · subst hj
      rw [List.getElem?_set_self hlt] at e1
      cases e1
      rw [ev] at e2; cases e2
      exact ⟨p, xs', rfl, upd_same, r', ⟨fp', bp'⟩, z'⟩
    · rw [List.getElem?_set_ne hj] at e1
      refine (S'.sl j s w e1 e2).mono (Same.refl _) (fun q u eq os h => ?_) (fun _ _ _ n => n)
      rw [upd_ne]
      · exact h
      · rintro rfl
        exact hj (S'.ap i j q oi ⟨s, e1, os, by rw [e2, eq]⟩)
  · obtain ⟨h1, ds'', h2⟩ := S'.rf q hq
    by_cases hi : i = 0
    · subst hi
      exact ⟨h1, ds', List.getElem?_set_self hlt⟩
    · exact ⟨h1, ds'', by rw [List.getElem?_set_ne hi]; exact h2⟩
end
section
variable {X : Cx} {C : SC} {B : Bs} {a b c e tg iter : Expr} {pos pos' apos cpos : Pos} {ma mb mc : M (M D)} {x : Str} {m : M D} {mo : M (List D)} {mt : M Bool} {f g : M Fl} {st : Stmt} {ss rest ss1 ss2 : List Stmt} {i : Nat}
/-! ### blocks -/
def sSeq (a b : M Fl) : M Fl := a >>= fun f => match f with
  | .nx => b
  | .rt d => pure (.rt d)
  | .ro d => pure (.ro d)
  | .bk => pure .bk
  | .ct => pure .ct
theorem mss_nil : PSs X [] (tS X.K C (pure .nx)) := pss_imp pss_nil fun E σ H ⟨B, F, ρ, S, q⟩ => q σ F H (Same.refl _) S
theorem mss_one (h : PS X st (tS X.K C f)) : PSs X [st] (tS X.K C f) := pss_one h
theorem mss_cons (h : PS X st (tS X.K C f)) (h2 : PSs X rest (tS X.K C g)) : PSs X (st :: rest) (tS X.K C (sSeq f g)) := pss_imp (pss_cons h h2) fun E σ H ⟨B, F, ρ, S, q⟩ => by
  refine ⟨B, F, ρ, S, q.bind.imp fun fl ρ1 h1 => ?_⟩
  cases fl with
  | nx => exact fun σ1 F1 H1 s1 S1 => ⟨B, F1, ρ1, S1, RX.imp h1 fun _ _ q => q.mono s1⟩
  | rt d => exact h1
  | ro d => exact h1
  | bk => exact h1
  | ct => exact h1
theorem ms_pass : PS X (.Pass pos) (tS X.K C (pure .nx)) := ps_imp ps_pass fun E σ H ⟨B, F, ρ, S, q⟩ => q σ F H (Same.refl _) S
theorem ms_break : PS X (.Break pos) (tS X.K C (pure .bk)) := ps_imp ps_break fun E σ H ⟨B, F, ρ, S, q⟩ => q σ F H (Same.refl _) S
theorem ms_cont : PS X (.Continue pos) (tS X.K C (pure .ct)) := ps_imp ps_continue fun E σ H ⟨B, F, ρ, S, q⟩ => q σ F H (Same.refl _) S
def sRet (m : M D) : M Fl := m >>= fun d => pure (.rt d)
theorem ms_ret (h : PE X e (tM X.K C m)) : PS X (.Return (some e) pos) (tS X.K C (sRet m)) := ps_imp (ps_ret h) fun E σ H ⟨B, F, ρ, S, q⟩ =>
  tM.of S q.bind fun d ρ1 h1 v F1 H1 s1 S1 r1 => h1 v σ F1 H1 s1 S1 r1
def sRetO (m : M (List D)) : M Fl := m >>= fun d => pure (.ro d)
theorem ms_retO (h : PE X e (tO X.K C mo)) : PS X (.Return (some e) pos) (tS X.K C (sRetO mo)) := ps_imp (ps_ret h) fun E σ H ⟨B, F, ρ, S, q⟩ =>
  tO.of S q.bind fun d ρ1 h1 p xs F1 H1 s1 S1 fp bp no hp z r1 => h1 p xs σ F1 H1 s1 S1 fp bp hp z r1
theorem ms_retN : PS X (.Return none pos) (tS X.K C (pure (.rt .none))) := ps_imp ps_retN fun E σ H ⟨B, F, ρ, S, q⟩ => q .non σ F H (Same.refl _) S rfl
def sDo (m : M D) : M Fl := m >>= fun _ => pure .nx
theorem ms_do (h : PE X e (tM X.K C m)) (hs : swapsWith e none pos.line X.env = pure false := by rfl) : PS X (.Expr e pos) (tS X.K C (sDo m)) := ps_imp (ps_expr h hs) fun E σ H ⟨B, F, ρ, S, q⟩ =>
  tM.of S q.bind fun d ρ1 h1 v F1 H1 s1 S1 r1 => h1 σ F1 H1 s1 S1
def sIf (t : M Bool) (a b : M Fl) : M Fl := t >>= fun c => if c = true then a else b
theorem ms_if (hc : PT X c (tB X.K C mt)) (h1 : PSs X ss1 (tS X.K C f)) (h2 : PSs X ss2 (tS X.K C g)) : PS X (.If c ss1 ss2 pos) (tS X.K C (sIf mt f g)) := ps_imp (ps_if hc h1 h2) fun E σ H ⟨B, F, ρ, S, q⟩ =>
  tB.of S q.bind fun d ρ1 h1 F1 H1 s1 S1 => by
    cases d with
    | true => exact tS.of S1 h1 fun _ _ q => q.mono s1
    | false => exact tS.of S1 h1 fun _ _ q => q.mono s1
/-! ### stores -/
def sSet (i : Nat) (m : M D) : M Fl := m >>= fun d => setV i d >>= fun _ => pure .nx
theorem ms_set (i : Nat) (ni : C.rf = none ∨ i ≠ 0) (hN : X.N.Nodup) (h : PE X e (tM X.K C m)) (hi : X.N[i]? = some x := by rfl) (hx : Loc X.env.scope x := by first | exact .inl rfl | exact .inr rfl) (hs : swapsWith e (some (.Name x pos')) pos.line X.env = pure false := by rfl) (hf : X.fn x = true ∨ X.env.scope.names.lookup x = some .local := by first | exact .inl rfl | exact .inr rfl) :
    PS X (.Assign [.Name x pos'] e pos) (tS X.K C (sSet i m)) := ps_imp (ps_set hN hi hx h hs hf) fun E σ H ⟨B, F, ρ, S, q⟩ =>
  tM.of S q.bind fun d ρ1 h1 v F1 H1 s1 S1 r1 => by
    have h2 := h1.bind
    unfold setV at h2
    by_cases z : i < ρ1.length
    · rw [if_pos z] at h2
      exact h2 _ F1 H1 s1 (S1.setV ni r1)
    · rw [if_neg z] at h2
      exact h2.elim
def setO (i : Nat) (ds : List D) : M Unit := fun ρ => if i < ρ.length then .ok ((), ρ.set i (.own ds)) else .bad
def sSetO (i : Nat) (m : M (List D)) : M Fl := m >>= fun d => setO i d >>= fun _ => pure .nx
theorem sSetO_read {i : Nat} (ni : C.rf = none ∨ i ≠ 0) {E : Ends} {σ : L2.St} {H : Hp} (h : tS X.K C (sSetO i mo) E σ H) : tO X.K C mo σ H (fun v H1 => E.nx (σ.set i (some v)) H1) := by
  obtain ⟨B, F, ρ, S, q⟩ := h
  refine tO.of S q.bind fun ds ρ1 h1 p xs F1 H1 s1 S1 fp bp no hp z r1 => ?_
  have h2 := h1.bind
  unfold setO at h2
  by_cases z2 : i < ρ1.length
  · rw [if_pos z2] at h2
    exact h2 _ F1 H1 s1 (S1.setO ni fp bp no hp z r1)
  · rw [if_neg z2] at h2
    exact h2.elim
theorem ms_setO (i : Nat) (ni : C.rf = none ∨ i ≠ 0) (hN : X.N.Nodup) (h : PE X e (tO X.K C mo)) (hi : X.N[i]? = some x := by rfl) (hx : Loc X.env.scope x := by first | exact .inl rfl | exact .inr rfl) (hs : swapsWith e (some (.Name x pos')) pos.line X.env = pure false := by rfl) (hf : X.fn x = true ∨ X.env.scope.names.lookup x = some .local := by first | exact .inl rfl | exact .inr rfl) :
    PS X (.Assign [.Name x pos'] e pos) (tS X.K C (sSetO i mo)) := ps_imp (ps_set hN hi hx h hs hf) fun E σ H h => sSetO_read ni h
/-- y = [.. for ..] -/
theorem ms_lc {elt : Expr} {ifs : List Expr} {scope : Scope} {own : List (Str × Nat)} {spos lpos py : Pos} {mi : M (List D)} {bd : D → M Unit} {me : M D} {is : List Nat} {y : Str} (i : Nat) (ni0 : C.rf = none ∨ i ≠ 0) (hbd : ∀ d ρ c, bd d ρ ≠ .exc c) (hts : ∀ i ∈ is, i ∈ own.map (·.2)) (ni : ∀ v ∈ own.map (·.2), C.rf = none ∨ v ≠ 0)
    (hc : X.calm = true) (hN : X.N.Nodup) (hi : PI X tg iter (tI X.K C mi)) (ok : BlkOk X.N X.env.scope scope own)
    (hg : ∀ (s : Shared) (H : Hp) (L : Addr) (cl : List (Str × Addr)) (fp : List Addr), PG (X.blk s H scope (compEnvC scope cl L X.env) fp) tg (tG X.K C.nox is bd)) (ht : ∀ (s : Shared) (H : Hp) (L : Addr) (cl : List (Str × Addr)) (fp : List Addr), PTs (X.blk s H scope (compEnvC scope cl L X.env) fp) ifs (tB X.K C.nox mt))
    (he : ∀ (s : Shared) (H : Hp) (L : Addr) (cl : List (Str × Addr)) (fp : List Addr), PE (X.blk s H scope (compEnvC scope cl L X.env) fp) elt (tM X.K C.nox me)) (hy : X.N[i]? = some y := by rfl) (hyl : X.env.scope.names.lookup y = some .local := by rfl)
    (hsw : swapsWith (.ListComp elt [⟨tg, iter, ifs, 0⟩] scope lpos) (some (.Name y py)) spos.line X.env = pure true := by exact sw_true rfl rfl rfl (by decide +kernel)) (hs : ∀ x, foldedSetIterable iter X.env x = pure x := by intro _; rfl) :
    PS X (.Assign [.Name y py] (.ListComp elt [⟨tg, iter, ifs, 0⟩] scope lpos) spos) (tS X.K C (sSetO i (eLc (own.map (·.2)) mi bd mt me))) :=
  ps_imp (ps_setLc hc hN hy hyl hsw hi ok hg ht he hs) fun E σ H h => eLc_read hbd hts ni (sSetO_read ni0 h)
/-- the same where the name is a cell: a plain store -/
theorem pa1 {t : TE} (h : PE X a t) (hs : starEach [a] X.env = (false, eval a X.env) :: starEach [] X.env := by rfl) : PA X [a] (tCons t tNil) := pa_cons h pa_nil hs
def appO (i : Nat) (d : D) : M Unit := fun ρ => match ρ[i]? with
  | some (.own ds) => if ds.length < sizeLine then .ok ((), ρ.set i (.own (ds ++ [d]))) else .bad
  | _ => .bad
def sApp (i : Nat) (m : M D) : M Fl := m >>= fun d => appO i d >>= fun _ => pure .nx
theorem own_ty {F H : Hp} {σ : L2.St} {ρ : En} {v : V} (S : SR X.K C B F σ H ρ) {s : Sl} (e1 : ρ[i]? = some s) (o : ∃ ds, s = .own ds) (e2 : σ[i]? = some (some v)) : tyV X.K "list" v H := by
  obtain ⟨ds, rfl⟩ := o
  obtain ⟨p, xs, ex, hp, _⟩ := S.sl i _ _ e1 e2
  cases ex
  exact .inl ⟨rfl, xs, .of hp⟩
theorem own_at {F H : Hp} {σ : L2.St} {ρ : En} (S : SR X.K C B F σ H ρ) {ds : List D} (e1 : ρ[i]? = some (.own ds)) : ∃ p, σ[i]? = some (some (.ref p)) ∧ tyV X.K "list" (.ref p) H := by
  obtain ⟨p, xs, ev, hp, _⟩ := S.updOwn e1
  exact ⟨p, ev, .inl ⟨rfl, xs, .of hp⟩⟩
/-- the slot is somebody's own list ahead of the arguments, and behind -/
def isO (i : Nat) : M Unit := fun ρ => match ρ[i]? with
  | some (.own _) => .ok ((), ρ)
  | _ => .bad
theorem isO_read {α : Type} {Φ : α → En → Prop} {ρ : En} {k : M α} (h : RX C B Φ ((isO i >>= fun _ => k) ρ)) : (∃ ds, ρ[i]? = some (.own ds)) ∧ RX C B Φ (k ρ) := by
  have h2 := h.bind
  unfold isO at h2
  cases e : ρ[i]? with
  | none => rw [e] at h2; exact h2.elim
  | some s =>
    rw [e] at h2
    cases s with
    | own ds => exact ⟨⟨ds, rfl⟩, h2⟩
    | _ => exact h2.elim
def sApp' (i : Nat) (m : M D) : M Fl := isO i >>= fun _ => sApp i m
theorem ms_app (i : Nat) (h : PE X a (tM X.K C m)) (hN : X.N[i]? = some x := by rfl) (hv : Vis X.env.scope x := by first | exact Or.inl rfl | exact Or.inr (Or.inl rfl) | exact Or.inr (Or.inr rfl)) (hd : (x == ("__debug__" : Str)) = false := by decide)
    (hcd : (x == ("__classdict__" : Str)) = false := by decide) (hbase : attributeBase (.Name x pos) "append" X.env (eval (.Name x pos) X.env) = eval (.Name x pos) X.env := by rfl)
    (hfew : ((backTo cpos (starEach [a] X.env)).all (fun x => !x.1) && (backToKw cpos (keywordEach [] X.env)).all (fun x => x.1.isSome) && decide ([a].length + ([] : List Keyword).length + (if ([] : List Keyword).isEmpty then 0 else 1) < 30)) = true := by rfl)
    (hline : (apos.endLine == cpos.line) = true := by rfl) (hs : starEach [a] X.env = (false, eval a X.env) :: starEach [] X.env := by rfl) (hplain : (backTo cpos (starEach [] X.env)).any (·.1) = false := by rfl) (hsw : swapsWith (.Call (.Attribute (.Name x pos) "append" apos) [a] [] cpos) none pos'.line X.env = pure false := by rfl) :
    PS X (.Expr (.Call (.Attribute (.Name x pos) "append" apos) [a] [] cpos) pos') (tS X.K C (sApp' i m)) :=
  ps_imp (ps_expr (pe_bm PySem.F.plainAttrs_list PySem.F.slot_list_append PySem.F.type_list_append mt_append (pe_var hN hv hd hcd) (pa1 h hs) hbase hfew hline hs hplain) hsw) fun E σ H ⟨B, F, ρ, S, q⟩ => by
    obtain ⟨⟨ds, e0⟩, q⟩ := isO_read q
    obtain ⟨p, ev, ty⟩ := own_at S e0
    refine ⟨_, ev, ty, ?_⟩
    refine tM.of S q.bind fun d ρ1 h1 v F1 H1 s1 S1 r1 => ?_
    have h2 := h1.bind
    unfold appO at h2
    cases e : ρ1[i]? with
    | none => rw [e] at h2; exact h2.elim
    | some s =>
      rw [e] at h2
      cases s with
      | own ds1 =>
        by_cases z : ds1.length < sizeLine
        · simp only [if_pos z] at h2
          obtain ⟨p1, xs, ev1, hp, zx, r, fp, k⟩ := S1.updOwn e
          rw [ev] at ev1; cases ev1
          have lx := r.len
          exact ⟨p, xs, v, rfl, rfl, hp, by omega, h2 σ F1 _ s1 (k S1 hp (by simp; omega) (r.append (.cons r1 .nil)))⟩
        · simp only [if_neg z] at h2
          exact h2.elim
      | _ => exact h2.elim
def extO (i : Nat) (d : D) : M Unit := fun ρ => match ρ[i]?, d with
  | some (.own ds), .list es => if ds.length + es.length ≤ sizeLine then .ok ((), ρ.set i (.own (ds ++ es))) else .bad
  | _, _ => .bad
def sExt (i : Nat) (m : M D) : M Fl := isO i >>= fun _ => m >>= fun d => extO i d >>= fun _ => pure .nx
theorem ms_ext (i : Nat) (h : PE X a (tM X.K C m)) (hN : X.N[i]? = some x := by rfl) (hv : Vis X.env.scope x := by first | exact Or.inl rfl | exact Or.inr (Or.inl rfl) | exact Or.inr (Or.inr rfl)) (hd : (x == ("__debug__" : Str)) = false := by decide)
    (hcd : (x == ("__classdict__" : Str)) = false := by decide) (hbase : attributeBase (.Name x pos) "extend" X.env (eval (.Name x pos) X.env) = eval (.Name x pos) X.env := by rfl)
    (hfew : ((backTo cpos (starEach [a] X.env)).all (fun x => !x.1) && (backToKw cpos (keywordEach [] X.env)).all (fun x => x.1.isSome) && decide ([a].length + ([] : List Keyword).length + (if ([] : List Keyword).isEmpty then 0 else 1) < 30)) = true := by rfl)
    (hline : (apos.endLine == cpos.line) = true := by rfl) (hs : starEach [a] X.env = (false, eval a X.env) :: starEach [] X.env := by rfl) (hplain : (backTo cpos (starEach [] X.env)).any (·.1) = false := by rfl) (hsw : swapsWith (.Call (.Attribute (.Name x pos) "extend" apos) [a] [] cpos) none pos'.line X.env = pure false := by rfl) :
    PS X (.Expr (.Call (.Attribute (.Name x pos) "extend" apos) [a] [] cpos) pos') (tS X.K C (sExt i m)) :=
  ps_imp (ps_expr (pe_bm PySem.F.plainAttrs_list PySem.F.slot_list_extend PySem.F.type_list_extend mt_extendR (pe_var hN hv hd hcd) (pa1 h hs) hbase hfew hline hs hplain) hsw) fun E σ H ⟨B, F, ρ, S, q⟩ => by
    obtain ⟨⟨ds, e0⟩, q⟩ := isO_read q
    obtain ⟨p, ev, ty⟩ := own_at S e0
    refine ⟨_, ev, ty, ?_⟩
    refine tM.of S q.bind fun d ρ1 h1 v F1 H1 s1 S1 r1 => ?_
    have h2 := h1.bind
    unfold extO at h2
    cases e : ρ1[i]? with
    | none => rw [e] at h2; exact h2.elim
    | some s =>
      rw [e] at h2
      cases s with
      | own ds1 =>
        cases d <;> try exact h2.elim
        rename_i es
        by_cases z : ds1.length + es.length ≤ sizeLine
        · simp only [if_pos z] at h2
          obtain ⟨p1, xs, ev1, hp, zx, r, fp, k⟩ := S1.updOwn e
          rw [ev] at ev1; cases ev1
          obtain ⟨q1, ys, rfl, fq, zy, r2⟩ := r1
          have lx := r.len
          have ly := r2.len
          exact ⟨p, q1, xs, ys, rfl, rfl, hp, rd_same S1.fr fq, by omega, h2 σ F1 _ s1 (k S1 hp (by simp; omega) (r.append r2))⟩
        · simp only [if_neg z] at h2
          exact h2.elim
      | _ => cases d <;> exact h2.elim
/-! ### x[k] = e -/
def setIxO (i : Nat) (k d : D) : M Unit := fun ρ => match ρ[i]?, k with
  | some (.own ds), .int k => match ixN ds.length k with
    | some j => .ok ((), ρ.set i (.own (ds.set j d)))
    | none => .bad
  | _, _ => .bad
def sSetIx (i : Nat) (mk : M (M D)) (m : M D) : M Fl := m >>= fun d => isO i >>= fun _ => mk >>= fun k => k >>= fun k => setIxO i k d >>= fun _ => pure .nx
theorem ms_setIx {spos : Pos} (i : Nat) (h : PE X a (tM X.K C m)) (hk : PE X b (tL X.K C mb)) (hN : X.N[i]? = some x := by rfl) (hv : Vis X.env.scope x := by first | exact Or.inl rfl | exact Or.inr (Or.inl rfl) | exact Or.inr (Or.inr rfl)) (hd : (x == ("__debug__" : Str)) = false := by decide)
    (hcd : (x == ("__classdict__" : Str)) = false := by decide) (ha : ∀ v, assign (.Subscript (.Name x pos) b spos) X.env v = (do
      let ov ← holding [v] (eval (.Name x pos) X.env)
      let iv ← holding [v, ov] (eval b X.env)
      standAt spos
      holding [v, ov, iv] (setItem ov iv v)
      release [v, ov, iv] []) := by intro _; rfl) (hs : swapsWithSole [.Subscript (.Name x pos) b spos] a cpos.line X.env = pure false := by rfl) (hw : swappedStores [.Subscript (.Name x pos) b spos] a X.env = pure none := by rfl)
    (h1 : (assignEach [.Subscript (.Name x pos) b spos] X.env).map (·.2) = [assign (.Subscript (.Name x pos) b spos) X.env] := by rfl) :
    PS X (.Assign [.Subscript (.Name x pos) b spos] a cpos) (tS X.K C (sSetIx i mb m)) :=
  ps_imp (ps_asg h (pg_sub (pe_var hN hv hd hcd) hk set_list ha) hs hw h1) fun E σ H ⟨B, F, ρ, S, q⟩ => by
    refine tM.of S q.bind fun d ρ1 h1 v F1 H1 s1 S1 r1 => ?_
    obtain ⟨⟨ds, e0⟩, h1⟩ := isO_read h1
    obtain ⟨p, ev, ty⟩ := own_at S1 e0
    refine ⟨_, ev, ?_⟩
    refine tL.of S1 h1.bind fun lk ρ2 h2 u F2 H2 s2 S2 r2 => ?_
    obtain ⟨k, rk, h3⟩ := late_step S2 r2 h2
    have h4 := h3.bind
    unfold setIxO at h4
    cases e : ρ2[i]? with
    | none => rw [e] at h4; exact h4.elim
    | some s =>
      rw [e] at h4
      cases s with
      | own ds1 =>
        cases k <;> try exact h4.elim
        rename_i k
        cases ek : ixN ds1.length k with
        | none => simp only [ek] at h4; exact h4.elim
        | some j =>
          simp only [ek] at h4
          obtain ⟨p1, xs, ev1, hp, zx, r, fp, kk⟩ := S2.updOwn e
          rw [ev] at ev1; cases ev1
          exact ⟨p, xs, k, j, rfl, rpv_int rk, hp, by rw [← r.len]; exact ek, h4 σ F2 _ (s1.trans s2) (kk S2 hp (by simpa using zx) (r.set j (r1.mono s2)))⟩
      | _ => cases k <;> exact h4.elim
/-! ### pop -/
def popO (i : Nat) : M D := fun ρ => match ρ[i]? with
  | some (.own ds) => match ds[ds.length - 1]? with
    | some d => .ok (d, ρ.set i (.own ds.dropLast))
    | none => .bad
  | _ => .bad
theorem m_pop (i : Nat) (hN : X.N[i]? = some x := by rfl) (hv : Vis X.env.scope x := by first | exact Or.inl rfl | exact Or.inr (Or.inl rfl) | exact Or.inr (Or.inr rfl)) (hd : (x == ("__debug__" : Str)) = false := by decide)
    (hcd : (x == ("__classdict__" : Str)) = false := by decide) (hbase : attributeBase (.Name x pos) "pop" X.env (eval (.Name x pos) X.env) = eval (.Name x pos) X.env := by rfl) (hline : (apos.endLine == cpos.line) = true := by rfl) :
    PE X (.Call (.Attribute (.Name x pos) "pop" apos) [] [] cpos) (tM X.K C (popO i)) :=
  pe_imp (pe_bm0 PySem.F.plainAttrs_list PySem.F.slot_list_pop PySem.F.type_list_pop mt_pop (pe_var hN hv hd hcd) hbase hline) fun σ H Q ⟨B, F, ρ, S, q⟩ => by
    unfold popO at q
    cases e : ρ[i]? with
    | none => rw [e] at q; exact q.elim
    | some s =>
      rw [e] at q
      cases s with
      | own ds =>
        simp only at q
        cases el : ds[ds.length - 1]? with
        | none => rw [el] at q; exact q.elim
        | some d =>
          rw [el] at q
          obtain ⟨p, ev, ty⟩ := own_at S e
          obtain ⟨p1, xs, ev1, hp, zx, r, fp, kk⟩ := S.updOwn e
          rw [ev] at ev1; cases ev1
          obtain ⟨v, e2, rv⟩ := r.get' el
          rw [r.len] at e2
          exact ⟨_, ev, ty, p, xs, v, rfl, rfl, hp, e2, q v F _ (Same.refl _) (kk S hp (by simp; omega) r.dropLast) rv⟩
      | _ => exact q.elim
def popAtO (i : Nat) (k : D) : M D := fun ρ => match ρ[i]?, k with
  | some (.own ds), .int k => if -(2 ^ 63) ≤ k ∧ k < 2 ^ 63 then match seqIndex? k ds.length with
    | some j => match ds[j]? with
      | some d => .ok (d, ρ.set i (.own (ds.eraseIdx j)))
      | none => .bad
    | none => .bad else .bad
  | _, _ => .bad
def ePopAt (i : Nat) (m : M D) : M D := isO i >>= fun _ => m >>= fun k => popAtO i k
theorem m_popAt (i : Nat) (h : PE X a (tM X.K C m)) (hN : X.N[i]? = some x := by rfl) (hv : Vis X.env.scope x := by first | exact Or.inl rfl | exact Or.inr (Or.inl rfl) | exact Or.inr (Or.inr rfl)) (hd : (x == ("__debug__" : Str)) = false := by decide)
    (hcd : (x == ("__classdict__" : Str)) = false := by decide) (hbase : attributeBase (.Name x pos) "pop" X.env (eval (.Name x pos) X.env) = eval (.Name x pos) X.env := by rfl)
    (hfew : ((backTo cpos (starEach [a] X.env)).all (fun x => !x.1) && (backToKw cpos (keywordEach [] X.env)).all (fun x => x.1.isSome) && decide ([a].length + ([] : List Keyword).length + (if ([] : List Keyword).isEmpty then 0 else 1) < 30)) = true := by rfl)
    (hline : (apos.endLine == cpos.line) = true := by rfl) (hs : starEach [a] X.env = (false, eval a X.env) :: starEach [] X.env := by rfl) (hplain : (backTo cpos (starEach [] X.env)).any (·.1) = false := by rfl) :
    PE X (.Call (.Attribute (.Name x pos) "pop" apos) [a] [] cpos) (tM X.K C (ePopAt i m)) :=
  pe_imp (pe_bm PySem.F.plainAttrs_list PySem.F.slot_list_pop PySem.F.type_list_pop mt_popAt (pe_var hN hv hd hcd) (pa1 h hs) hbase hfew hline hs hplain) fun σ H Q ⟨B, F, ρ, S, q⟩ => by
    obtain ⟨⟨ds0, e0⟩, q⟩ := isO_read q
    obtain ⟨p, ev, ty⟩ := own_at S e0
    refine ⟨_, ev, ty, ?_⟩
    refine tM.of S q.bind fun k ρ1 h1 v F1 H1 s1 S1 r1 => ?_
    unfold popAtO at h1
    cases e : ρ1[i]? with
    | none => rw [e] at h1; exact h1.elim
    | some s =>
      rw [e] at h1
      cases s with
      | own ds =>
        cases k <;> try exact h1.elim
        rename_i k
        by_cases z : -(2 ^ 63) ≤ k ∧ k < 2 ^ 63
        · simp only [if_pos z] at h1
          cases ej : seqIndex? k ds.length with
          | none => rw [ej] at h1; exact h1.elim
          | some j =>
            simp only [ej] at h1
            cases el : ds[j]? with
            | none => rw [el] at h1; exact h1.elim
            | some d =>
              rw [el] at h1
              obtain ⟨p1, xs, ev1, hp, zx, r, fp, kk⟩ := S1.updOwn e
              rw [ev] at ev1; cases ev1
              obtain ⟨v2, e2, rv⟩ := r.get' el
              exact ⟨p, xs, k, j, v2, rfl, by rw [show v = .int k from r1], hp, z.1, z.2, by rw [← r.len]; exact ej, e2, h1 v2 F1 _ s1 (kk S1 hp (Nat.le_trans (len_erase xs j) zx) (r.erase j)) rv⟩
        · simp only [if_neg z] at h1
          exact h1.elim
      | _ => cases k <;> exact h1.elim
/-! ### loops -/
def forGo (bd : D → M Unit) (body : M Fl) : List D → M Fl
  | [] => pure .nx
  | d :: ds => bd d >>= fun _ => body >>= fun f => match f with
    | .nx => forGo bd body ds
    | .ct => forGo bd body ds
    | .bk => pure .nx
    | .rt d => pure (.rt d)
    | .ro d => pure (.ro d)
def sFor (mi : M (List D)) (bd : D → M Unit) (body : M Fl) : M Fl := mi >>= fun ds => forGo bd body ds
theorem ms_for {body : List Stmt} {mi : M (List D)} {bd : D → M Unit} {mb : M Fl} {is : List Nat} (hbd : ∀ d ρ c, bd d ρ ≠ .exc c) (hp : PassesOwn (model X.prog X.w) X.A X.env X.xe) (hc : X.calm = true) (hi : PI X tg iter (tI X.K C mi)) (hg : PG X tg (tG X.K C is bd)) (hb : PSs X body (tS X.K C mb))
    (hs : ∀ x, foldedSetIterable iter X.env x = pure x := by intro _; rfl) : PS X (.For tg iter body [] pos) (tS X.K C (sFor mi bd mb)) := ps_imp (ps_for hp hc hi hg hb hs) fun E σ H ⟨B, F, ρ, S, q⟩ => by
  refine ⟨B, F, ρ, S, q.bind.imp fun ds ρ1 h1 J F1 H1 s1 S1 w => ?_⟩
  refine ⟨fun i m σ H' => m = ds.length - i ∧ i ≤ ds.length ∧ ∃ F' ρ', Same F1 F' ∧ SR X.K C B F' σ H' ρ' ∧ RX C B (PF X.K C B F E) (forGo bd mb (ds.drop i) ρ'), ⟨ds.length, by simp, Nat.zero_le _, F1, ρ1, Same.refl _, S1, h1⟩, ?_⟩
  rintro i m σ2 H' ⟨rfl, hi, F', ρ', sf, S', q'⟩
  have wi := w i H' (fun b o e => S'.fr _ _ (sf _ _ e))
  by_cases hlt : i < ds.length
  · obtain ⟨d, ed⟩ : ∃ d, ds[i]? = some d := ⟨ds[i], by simp [hlt]⟩
    obtain ⟨go, yl⟩ := wi.1 d ed
    refine .inr ⟨go, fun σ3 H3 => ∃ F' ρ', Same F1 F' ∧ SR X.K C B F' σ3 H3 ρ' ∧ RX C B (PF X.K C B F E) (forGo bd mb (ds.drop (i + 1)) ρ'), fun σ3 H3 h => ⟨ds.length - (i + 1), by omega, rfl, hlt, h⟩, fun x H2 y => ?_⟩
    have drop : ds.drop i = d :: ds.drop (i + 1) := by
      rw [List.drop_eq_getElem_cons hlt]
      congr 1
      have := List.getElem?_eq_getElem hlt
      rw [ed] at this
      exact (Option.some.inj this).symm
    rw [drop] at q'
    obtain ⟨F2, s2, S2, r2⟩ := Yields.sr sf S' (yl x H2 y)
    have q1 : RX C B (PF X.K C B F E) ((bd d >>= fun _ => mb >>= fun f => match f with
      | .nx => forGo bd mb (ds.drop (i + 1))
      | .ct => forGo bd mb (ds.drop (i + 1))
      | .bk => pure .nx
      | .rt d => pure (.rt d)
      | .ro d => pure (.ro d)) ρ') := q'
    refine ⟨B, F2, ρ', d, S2, r2, ?_⟩
    refine q1.bind.imp fun _ ρ3 h3 σ3 ch S3 => ?_
    refine ⟨B, F2, ρ3, S3, h3.bind.imp fun f ρ4 h4 => ?_⟩
    have base : Same F F2 := s1.trans (sf.trans s2)
    cases f with
    | nx => exact fun σ4 F4 H4 s4 S4 => ⟨F4, ρ4, sf.trans (s2.trans s4), S4, h4⟩
    | ct => exact fun σ4 F4 H4 s4 S4 => ⟨F4, ρ4, sf.trans (s2.trans s4), S4, h4⟩
    | bk => exact fun σ4 F4 H4 s4 S4 => h4 σ4 F4 H4 (base.trans s4) S4
    | rt d => exact fun v σ4 F4 H4 s4 S4 r4 => h4 v σ4 F4 H4 (base.trans s4) S4 r4
    | ro d => exact fun p xs σ4 F4 H4 s4 => h4 p xs σ4 F4 H4 (base.trans s4)
  · have e : i = ds.length := by omega
    subst e
    rw [List.drop_length] at q'
    exact .inl ⟨wi.2 (Nat.le_refl _), q' σ2 F' H' (s1.trans sf) S'⟩
/-- while, at most n turns -/
def whGo (mt : M Bool) (body : M Fl) : Nat → M Fl
  | 0 => fun _ => .bad
  | n + 1 => mt >>= fun c => if c = true then body >>= fun f => match f with
    | .nx => whGo mt body n
    | .ct => whGo mt body n
    | .bk => pure .nx
    | .rt d => pure (.rt d)
    | .ro d => pure (.ro d) else pure .nx
theorem ms_while {body : List Stmt} {mb : M Fl} (n : Nat) (hp : PassesOwn (model X.prog X.w) X.A X.env X.xe) (hc : PT X c (tB X.K C mt)) (hb : PSs X body (tS X.K C mb)) : PS X (.While c body [] pos) (tS X.K C (whGo mt mb n)) := ps_imp (ps_while hp hc hb) fun E σ H ⟨B, F, ρ, S, q⟩ => by
  refine ⟨fun m σ H' => ∃ F' ρ', Same F F' ∧ SR X.K C B F' σ H' ρ' ∧ RX C B (PF X.K C B F E) (whGo mt mb m ρ'), ⟨n, F, ρ, Same.refl _, S, q⟩, ?_⟩
  rintro m σ2 H' ⟨F', ρ', sf, S', q'⟩
  cases m with
  | zero => exact (show False from q').elim
  | succ m =>
    have q1 : RX C B (PF X.K C B F E) ((mt >>= fun c => if c = true then mb >>= fun f => match f with
      | .nx => whGo mt mb m
      | .ct => whGo mt mb m
      | .bk => pure .nx
      | .rt d => pure (.rt d)
      | .ro d => pure (.ro d) else pure .nx) ρ') := q'
    refine ⟨B, F', ρ', S', q1.bind.imp fun k ρ3 h3 F3 H3 s3 S3 => ?_⟩
    cases k with
    | false => exact h3 σ2 F3 H3 (sf.trans s3) S3
    | true =>
      refine ⟨fun σ4 H4 => ∃ F' ρ', Same F F' ∧ SR X.K C B F' σ4 H4 ρ' ∧ RX C B (PF X.K C B F E) (whGo mt mb m ρ'), fun σ4 H4 h => ⟨m, Nat.lt_succ_self _, h⟩, ?_⟩
      have h4 := RX.bind (show RX C B (PF X.K C B F E) ((mb >>= fun f => match f with
      | .nx => whGo mt mb m
      | .ct => whGo mt mb m
      | .bk => pure .nx
      | .rt d => pure (.rt d)
      | .ro d => pure (.ro d)) ρ3) from h3)
      refine ⟨B, F3, ρ3, S3, h4.imp fun f ρ4 h5 => ?_⟩
      cases f with
      | nx => exact fun σ4 F4 H4 s4 S4 => ⟨F4, ρ4, sf.trans (s3.trans s4), S4, h5⟩
      | ct => exact fun σ4 F4 H4 s4 S4 => ⟨F4, ρ4, sf.trans (s3.trans s4), S4, h5⟩
      | bk => exact fun σ4 F4 H4 s4 S4 => h5 σ4 F4 H4 (sf.trans (s3.trans s4)) S4
      | rt d => exact fun v σ4 F4 H4 s4 S4 r4 => h5 v σ4 F4 H4 (sf.trans (s3.trans s4)) S4 r4
      | ro d => exact fun p xs σ4 F4 H4 s4 => h5 p xs σ4 F4 H4 (sf.trans (s3.trans s4))
end
end VS

set_option Elab.async false
set_option linter.all false
set_option maxRecDepth 100000
set_option maxHeartbeats 4000000
namespace VS
open PySem PySem.Spec PyProof.Rows L2
/-! ### promises -/
/-- what a def leaves: all that was there, the unfrozen stays unfrozen -/
def Left (F H F' H' : Hp) : Prop := Same F F' ∧ Same F' H' ∧ Same H H' ∧ ∀ q u, H q = some u → NT u → F q = none → F' q = none
def spV (K : PySem.W.Frag) (mg : Str → Option Value) (n : Nat) (f : List D → Res D) : Sp := fun vs H Q E => ∃ ds F, Same F H ∧ RpAll K F ds vs ∧ ds.length = n ∧ match f ds with
  | .ok d => ∀ v F' H', Left F H F' H' → Rp K F' d v → Q v H'
  | .exc c => ∀ H' Cc, Same H H' → mg c = some (.ref Cc) → E (.ref Cc) none H'
  | .bad => False
/-- a new list is handed back, to be the caller's own -/
def spO (K : PySem.W.Frag) (n : Nat) (f : List D → Res (List D)) : Sp := fun vs H Q E => ∃ ds F, Same F H ∧ RpAll K F ds vs ∧ ds.length = n ∧ match f ds with
  | .ok es => ∀ p xs F' H', Left F H F' H' → F' p = none → H p = none → H' p = some (.lst xs) → xs.length ≤ sizeLine → RpAll K F' es xs → Q (.ref p) H'
  | _ => False
/-- the first argument is a list of the caller's that is changed -/
def spR (K : PySem.W.Frag) (n : Nat) (f : List D → List D → Res (D × List D)) : Sp := fun vs H Q E => ∃ p ws ds es F xs, vs = .ref p :: ws ∧ Same F H ∧ F p = none ∧ H p = some (.lst xs) ∧ xs.length ≤ sizeLine ∧ RpAll K F ds xs ∧ RpAll K F es ws ∧ es.length = n ∧ match f ds es with
  | .ok (d, ds') => ∀ v F' H' xs', Same F F' → Same F' H' → (∀ a o, H a = some o → a ≠ p → H' a = some o) → (∀ q u, H q = some u → NT u → F q = none → F' q = none) → H' p = some (.lst xs') → xs'.length ≤ sizeLine → RpAll K F' ds' xs' → Rp K F' d v → Q v H'
  | _ => False
/-- what is wanted of an exception, by its class -/
def EX (mg : Str → Option Value) (C : SC) : XK := fun cls d H' => d = none ∧ ∃ c Cc, cls = .ref Cc ∧ mg c = some cls ∧ C.Ex c H'
structure Ok (X : Cx) (C : SC) (k : Nat) : Prop where
  calm : X.calm = true
  nd : X.N.Nodup
  room : Room k X.A
  pass : Passes (L2.CX X.prog X.w) X (EX X.mg C)
  own : PassesOwn (model X.prog X.w) X.A X.env X.xe
theorem pass_no {X : Cx} {E : XK} (h : ∀ cls d H', ¬ E cls d H') : Passes (L2.CX X.prog X.w) X E := fun _ _ _ _ _ _ _ q => by
  obtain ⟨_, _, _, _, _, _, _, _, _, _, _, _, z⟩ := q
  exact (h _ _ _ z).elim
theorem ex_nox {mg : Str → Option Value} {C : SC} (cls : Value) (d : Option Addr) (H' : Hp) : ¬ EX mg C.nox cls d H' := fun ⟨_, _, _, _, _, z⟩ => z
theorem Ok.blk {X : Cx} {C : SC} {k : Nat} (c : Ok X C k) (s : Shared) (H : Hp) (scope : Scope) (cenv : PySem.Env) (fp : List Addr) : Ok (X.blk s H scope cenv fp) C.nox k :=
  ⟨c.calm, c.nd, c.room, pass_no ex_nox, PassesOwn.never⟩
theorem Ok.units {X : Cx} {C : SC} {k : Nat} (c : Ok X C k) : X.A.units + 64 < cLine := c.room.units
theorem Ok.units0 {X : Cx} {C : SC} {k : Nat} (c : Ok X C k) : X.A.units < cLine := c.room.units0
/-! ### calls -/
section
variable {X : Cx} {C : SC} {B : Bs} {a b : Expr} {pos p p2 : Pos} {x y : Str} {k j : Nat} {fa : Addr} {fd : FuncData} {ps : List Str} {n : Nat} {es : List Expr} {ms : M (List D)} {i : Nat}
def eCall (f : List D → Res D) (ms : M (List D)) : M D := ms >>= fun ds => M.lift (f ds)
theorem spV_of {f : List D → Res D} {F H : Hp} {σ : L2.St} {ρ : En} {Q : VK} {ds : List D} {vs : List V} (S : SR X.K C B F σ H ρ) (r : RpAll X.K F ds vs) (hn : ds.length = n) (h : RX C B (PD X.K C B σ F Q) (M.lift (f ds) ρ)) : spV X.K X.mg n f vs H Q (EX X.mg C) := by
  refine ⟨ds, F, S.fr, r, hn, ?_⟩
  cases e : f ds with
  | ok d =>
    rw [e] at h
    exact fun v F' H' l rv => h v F' H' l.1 (S.grow l.2.2.1 l.1 l.2.1 l.2.2.2) rv
  | exc c =>
    rw [e] at h
    exact fun H' Cc s hc => ⟨rfl, c, Cc, rfl, hc, h H' fun a o e r => s _ _ (S.kp a o e r)⟩
  | bad => rw [e] at h; exact h
theorem m_call {f : List D → Res D} (G : FnOk X.prog X.w X.K X.mg X.base (L2.CX X.prog X.w) j fa fd ps (spV X.K X.mg n f)) (c : Ok X C k) (hj : j ≤ k) (hm : X.mg x = some (.ref fa)) (hk : PySem.W.keepIn X.K (.ref fa) = true) (hb : Binds X.K fd ps []) (ha : PA X (a :: es) (tA X.K C ms)) (hg : Gl X x := by rfl) (hdb : (x == ("__debug__" : Str)) = false := by decide)
    (he : starEach (a :: es) X.env = (false, eval a X.env) :: starEach es X.env := by rfl) (hpl : (backTo pos (starEach es X.env)).any (·.1) = false := by rfl) (hln : ∀ ρ ds ρ', ms ρ = .ok (ds, ρ') → ds.length = n) : PE X (.Call (.Name x p) (a :: es) [] pos) (tM X.K C (eCall f ms)) :=
  pe_imp (pe_call G (c.room.mono hj) hg hm hk hb .nil c.pass ha hdb he hpl) fun σ H Q ⟨B, F, ρ, S, q⟩ => by
    have q1 := q.bind
    cases e : ms ρ with
    | bad => rw [e] at q1; exact q1.elim
    | exc cc =>
      refine ⟨B, F, ρ, S, ?_⟩
      rw [e] at q1 ⊢
      exact q1
    | ok pr =>
      obtain ⟨ds, ρ1⟩ := pr
      refine ⟨B, F, ρ, S, ?_⟩
      rw [e] at q1 ⊢
      exact fun vs F1 H1 s1 S1 r1 => by
        show spV X.K X.mg n f (vs ++ []) H1 Q (EX X.mg C)
        rw [List.append_nil]
        exact spV_of S1 r1 (hln ρ ds ρ1 e) (RX.imp (show RX C B (PD X.K C B σ F Q) (M.lift (f ds) ρ1) from q1) fun _ _ q => q.mono s1)
theorem len_nil : ∀ ρ ds ρ', (pure [] : M (List D)) ρ = .ok (ds, ρ') → ds.length = 0 := fun ρ ds ρ' e => by cases e; rfl
theorem len_cons {va : M D} {vs : M (List D)} {n : Nat} (h : ∀ ρ ds ρ', vs ρ = .ok (ds, ρ') → ds.length = n) : ∀ ρ ds ρ', eCons va vs ρ = .ok (ds, ρ') → ds.length = n + 1 := fun ρ ds ρ' e => by
  have e' : ((va ρ).bind fun p => (vs p.2).bind fun q => .ok (p.1 :: q.1, q.2)) = .ok (ds, ρ') := e
  cases e1 : va ρ with
  | bad => rw [e1] at e'; cases e'
  | exc c => rw [e1] at e'; cases e'
  | ok p1 =>
    rw [e1] at e'
    have e2' : ((vs p1.2).bind fun q => .ok (p1.1 :: q.1, q.2)) = .ok (ds, ρ') := e'
    cases e2 : vs p1.2 with
    | bad => rw [e2] at e2'; cases e2'
    | exc c => rw [e2] at e2'; cases e2'
    | ok q1 =>
      rw [e2] at e2'
      have e3 : (Res.ok (p1.1 :: q1.1, q1.2) : Res (List D × En)) = .ok (ds, ρ') := e2'
      cases e3
      simp [h _ _ _ e2]
theorem m_call0 {f : List D → Res D} (G : FnOk X.prog X.w X.K X.mg X.base (L2.CX X.prog X.w) j fa fd ps (spV X.K X.mg 0 f)) (c : Ok X C k) (hj : j ≤ k) (hm : X.mg x = some (.ref fa)) (hk : PySem.W.keepIn X.K (.ref fa) = true) (hb : Binds X.K fd ps []) (hg : Gl X x := by rfl) (hdb : (x == ("__debug__" : Str)) = false := by decide) : PE X (.Call (.Name x p) [] [] pos) (tM X.K C (eCall f (pure []))) :=
  pe_imp (pe_call0 G (c.room.mono hj) hg hm hk hb .nil c.pass hdb) fun σ H Q ⟨B, F, ρ, S, q⟩ => by
    show spV X.K X.mg 0 f [] H Q (EX X.mg C)
    exact spV_of S (ds := []) rfl rfl q
/-- a def that hands back a list, to be one's own -/
def eCallO (f : List D → Res (List D)) (ms : M (List D)) : M (List D) := ms >>= fun ds => M.lift (match f ds with | .ok es => .ok es | _ => .bad)
theorem m_callO {f : List D → Res (List D)} (G : FnOk X.prog X.w X.K X.mg X.base (L2.CX X.prog X.w) j fa fd ps (spO X.K n f)) (c : Ok X C k) (hj : j ≤ k) (hm : X.mg x = some (.ref fa)) (hk : PySem.W.keepIn X.K (.ref fa) = true) (hb : Binds X.K fd ps []) (ha : PA X (a :: es) (tA X.K C ms)) (hg : Gl X x := by rfl) (hdb : (x == ("__debug__" : Str)) = false := by decide)
    (he : starEach (a :: es) X.env = (false, eval a X.env) :: starEach es X.env := by rfl) (hpl : (backTo pos (starEach es X.env)).any (·.1) = false := by rfl) (hln : ∀ ρ ds ρ', ms ρ = .ok (ds, ρ') → ds.length = n) : PE X (.Call (.Name x p) (a :: es) [] pos) (tO X.K C (eCallO f ms)) :=
  pe_imp (pe_call G (c.room.mono hj) hg hm hk hb .nil c.pass ha hdb he hpl) fun σ H Q ⟨B, F, ρ, S, q⟩ => by
    have q1 := q.bind
    cases e : ms ρ with
    | bad => rw [e] at q1; exact q1.elim
    | exc cc =>
      refine ⟨B, F, ρ, S, ?_⟩
      rw [e] at q1 ⊢
      exact q1
    | ok pr =>
      obtain ⟨ds, ρ1⟩ := pr
      refine ⟨B, F, ρ, S, ?_⟩
      rw [e] at q1 ⊢
      exact fun vs F1 H1 s1 S1 r1 => by
        show spO X.K n f (vs ++ []) H1 Q (EX X.mg C)
        rw [List.append_nil]
        refine ⟨ds, F1, S1.fr, r1, hln ρ ds ρ1 e, ?_⟩
        have q2 : RX C B (PO X.K C B σ F Q) (M.lift (match f ds with | .ok es => .ok es | _ => .bad) ρ1) := q1
        cases ef : f ds with
        | ok es =>
          rw [ef] at q2
          refine fun p xs F' H' l fp hp hp' z r => q2 p xs F' H' (s1.trans l.1) (S1.grow l.2.2.1 l.1 l.2.1 l.2.2.2) fp (S1.fresh hp).2 (fun i o => ?_) hp' z r
          obtain ⟨u, hu⟩ := own_there S1 o
          rw [hp] at hu; cases hu
        | exc c => rw [ef] at q2; exact q2
        | bad => rw [ef] at q2; exact q2
/-- a def that changes the list in the slot i -/
def callO (i : Nat) (f : List D → List D → Res (D × List D)) (es : List D) : M D := fun ρ => match ρ[i]? with
  | some (.own ds) => match f ds es with
    | .ok (d, ds') => .ok (d, ρ.set i (.own ds'))
    | _ => .bad
  | _ => .bad
def eCallR (i : Nat) (f : List D → List D → Res (D × List D)) (ms : M (List D)) : M D := isO i >>= fun _ => ms >>= fun es => callO i f es
theorem upd_self {H : Hp} {p : Addr} {o u : HO} (h : H p = some o) : upd (upd H p u) p o = H := by
  rw [upd_upd]
  funext a
  unfold upd
  split
  · rename_i e; rw [e, h]
  · rfl
theorem m_callR {f : List D → List D → Res (D × List D)} (i : Nat) (G : FnOk X.prog X.w X.K X.mg X.base (L2.CX X.prog X.w) j fa fd ps (spR X.K n f)) (c : Ok X C k) (hj : j ≤ k) (hm : X.mg x = some (.ref fa)) (hk : PySem.W.keepIn X.K (.ref fa) = true) (hb : Binds X.K fd ps []) (ha : PA X es (tA X.K C ms)) (hN : X.N[i]? = some y := by rfl) (hv : Vis X.env.scope y := by first | exact Or.inl rfl | exact Or.inr (Or.inl rfl) | exact Or.inr (Or.inr rfl)) (hdy : (y == ("__debug__" : Str)) = false := by decide)
    (hcd : (y == ("__classdict__" : Str)) = false := by decide) (hg : Gl X x := by rfl) (hdb : (x == ("__debug__" : Str)) = false := by decide)
    (he : starEach (.Name y p2 :: es) X.env = (false, eval (.Name y p2) X.env) :: starEach es X.env := by rfl) (hpl : (backTo pos (starEach es X.env)).any (·.1) = false := by rfl) (hln : ∀ ρ ds ρ', ms ρ = .ok (ds, ρ') → ds.length = n) : PE X (.Call (.Name x p) (.Name y p2 :: es) [] pos) (tM X.K C (eCallR i f ms)) :=
  pe_imp (pe_call G (c.room.mono hj) hg hm hk hb .nil c.pass (pa_cons (pe_var hN hv hdy hcd) ha he) hdb he hpl) fun σ H Q ⟨B, F, ρ, S, q⟩ => by
    obtain ⟨⟨ds0, e0⟩, q⟩ := isO_read q
    obtain ⟨p0, ev, _⟩ := own_at S e0
    refine ⟨_, ev, ?_⟩
    have q1 := q.bind
    cases e : ms ρ with
    | bad => rw [e] at q1; exact q1.elim
    | exc cc =>
      refine ⟨B, F, ρ, S, ?_⟩
      rw [e] at q1 ⊢
      exact q1
    | ok pr =>
      obtain ⟨es', ρ1⟩ := pr
      refine ⟨B, F, ρ, S, ?_⟩
      rw [e] at q1 ⊢
      exact fun vs F1 H1 s1 S1 r1 => by
        show spR X.K n f ((.ref p0 :: vs) ++ []) H1 Q (EX X.mg C)
        rw [List.append_nil]
        have q2 : RX C B (PD X.K C B σ F Q) (callO i f es' ρ1) := q1
        unfold callO at q2
        cases e1 : ρ1[i]? with
        | none => rw [e1] at q2; exact q2.elim
        | some sl =>
          rw [e1] at q2
          cases sl with
          | own ds =>
            obtain ⟨p1, xs, ev1, hp, zx, r, fp, kk⟩ := S1.updOwn e1
            rw [ev] at ev1; cases ev1
            refine ⟨p0, vs, ds, es', F1, xs, rfl, S1.fr, fp, hp, zx, r, r1, hln ρ es' ρ1 e, ?_⟩
            simp only at q2
            cases ef : f ds es' with
            | exc c => rw [ef] at q2; exact q2.elim
            | bad => rw [ef] at q2; exact q2.elim
            | ok pd =>
              obtain ⟨d, ds'⟩ := pd
              rw [ef] at q2
              refine fun v F' H' xs' sf fr kp nf hp' z' r' rv => ?_
              have fp' : F' p0 = none := nf _ _ hp (fun _ z => nomatch z) fp
              have sh : Same H1 (upd H' p0 (.lst xs)) := fun a o ea => by
                by_cases hq : a = p0
                · subst hq; rw [hp] at ea; rw [upd_same]; exact ea
                · rw [upd_ne hq]; exact kp a o ea hq
              have S2 : SR X.K C B F' σ (upd H' p0 (.lst xs)) ρ1 := S1.grow sh sf (fun a o ea => by rw [upd_ne (ne_of_none ea fp')]; exact fr _ _ ea) nf
              have S3 := kk S2 upd_same z' r'
              rw [upd_self hp'] at S3
              exact q2 v F' H' (s1.trans sf) S3 rv
          | _ => exact q2.elim
end
/-! ### bodies -/
def startE (n : Nat) (ds : List D) : En := ds.map .val ++ List.replicate (n - ds.length) .emp
/-- what a body is worth -/
def runB (n : Nat) (m : M Fl) (ds : List D) : Res D := match m (startE n ds) with
  | .ok (.rt d, _) => .ok d
  | .ok (.nx, _) => .ok .none
  | .exc c => .exc c
  | _ => .bad
abbrev FnP (K : PySem.W.Frag) (x : Str) (st : Stmt) (f : Addr) (fd : FuncData) : Prop := FunD K x x (defArgs st) (defBody st) (defScope st) [] [] f fd
section
variable {P : Program} {w : World} {K : PySem.W.Frag} {mg : Str → Option Value} {base : Heap} {x : Str} {st : Stmt} {fa : Addr} {fd : FuncData} {N ps : List Str} {k n : Nat}
/-- the context of the body -/
abbrev bodyX (P : Program) (w : World) (K : PySem.W.Frag) (mg : Str → Option Value) (base : Heap) (N : List Str) (x : Str) (st : Stmt) (fa : Addr) (cdv : Value) (A : Around) (outer : List PySem.Env) (s : Shared) (H : Hp) (E : XK) : Cx :=
  cxOf (L2.CX P w) P w K mg base N x (defScope st) fa cdv A outer s H E
def bodyC (rf : Option Addr) (mg : Str → Option Value) (E : XK) : SC := ⟨rf, fun c H' => ∀ Cc, mg c = some (.ref Cc) → E (.ref Cc) none H'⟩
theorem body_takes {cdv : Value} {A : Around} {outer : List PySem.Env} {s : Shared} {H : Hp} {E : XK} : Takes (bodyX P w K mg base N x st fa cdv A outer s H E) (fun cls d _ H => E cls d H) := takes_of rfl rfl rfl rfl
theorem body_ok {cdv : Value} {A : Around} {outer : List PySem.Env} {s : Shared} {H : Hp} {E : XK} {rf : Option Addr} (S : FnScope N ps (defScope st)) (hr : Room k (A.deeper (envOfC x (defScope st) s.heap.objs.size fa cdv))) :
    Ok (bodyX P w K mg base N x st fa cdv A outer s H E) (bodyC rf mg E) k := ⟨rfl, S.nd, hr, fun pins σ H s' e s'' I q => by
  refine passes_call (W := fun cls d _ H => E cls d H) body_takes (fun cls d σ H h => ?_) pins σ H s' e s'' I q
  obtain ⟨rfl, c, Cc, rfl, hc, he⟩ := h
  exact he Cc hc, passes_of rfl⟩
theorem start_at {vs : List V} {ds : List D} {N : List Str} (h : ds.length = vs.length) {i : Nat} {s : Sl} {v : Option V} (e1 : (startE N.length ds)[i]? = some s) (e2 : (start N vs)[i]? = some v) : (s = .emp) ∨ ∃ d x, ds[i]? = some d ∧ vs[i]? = some x ∧ s = .val d ∧ v = some x := by
  unfold startE at e1
  unfold L2.start at e2
  by_cases hi : i < ds.length
  · rw [List.getElem?_append_left (by simpa using hi), List.getElem?_map] at e1
    rw [List.getElem?_append_left (by simp; omega), List.getElem?_map] at e2
    obtain ⟨d, ed⟩ : ∃ d, ds[i]? = some d := ⟨ds[i], by simp [hi]⟩
    obtain ⟨y, ey⟩ : ∃ d, vs[i]? = some d := ⟨vs[i]'(by omega), by simp⟩
    rw [ed] at e1
    rw [ey] at e2
    cases e1
    cases e2
    exact .inr ⟨d, y, ed, ey, rfl, rfl⟩
  · rw [List.getElem?_append_right (by simpa using hi), List.getElem?_replicate] at e1
    split at e1
    · exact .inl (Option.some.inj e1).symm
    · cases e1
theorem start_len {vs : List V} {ds : List D} {N : List Str} (h : ds.length = vs.length) : (start N vs).length = (startE N.length ds).length := by
  unfold L2.start startE
  simp [h]
/-- THE RULE for a def that takes values and hands back a value -/
theorem fn_V {m : M Fl} (F : FnP K x st fa fd) (S : FnScope N ps (defScope st))
    (hbody : ∀ (cdv : Value) (A : Around) (outer : List PySem.Env) (s : Shared) (H : Hp) (E : XK), Ok (bodyX P w K mg base N x st fa cdv A outer s H E) (bodyC none mg E) k → PSs (bodyX P w K mg base N x st fa cdv A outer s H E) (defBody st) (tS K (bodyC none mg E) m)) :
    FnOk P w K mg base (L2.CX P w) (k + 1) fa fd ps (spV K mg ps.length (runB N.length m)) := by
  refine F.ok S (fun vs H Q E h => ?_) (fun cdv A outer s H vs Q E hr h => ⟨_, hbody cdv A outer s H E (body_ok S hr), ?_⟩)
  · obtain ⟨ds, F0, _, r, hn, _⟩ := h
    rw [← r.len, hn]
  · obtain ⟨ds, F0, sf, r, hn, h⟩ := h
    have hl := r.len
    refine ⟨⟨H, F0⟩, F0, startE N.length ds, ⟨sf, fun a u _ _ f => f, fun a o e _ => e, start_len hl, fun i s v e1 e2 => ?_, fun i j p h1 h2 => ?_, fun p z => nomatch z⟩, ?_⟩
    · rcases start_at hl e1 e2 with rfl | ⟨d, y, e3, e4, rfl, rfl⟩
      · trivial
      · obtain ⟨y', e5, ry⟩ := r.get' e3
        rw [e4] at e5; cases e5
        exact ⟨y, rfl, ry⟩
    · obtain ⟨s1, e1, o1, e2⟩ := h1
      rcases start_at hl e1 e2 with rfl | ⟨d, y, e3, e4, rfl, _⟩
      · cases o1
      · cases o1
    · unfold runB at h
      cases e : m (startE N.length ds) with
      | bad => rw [e] at h; exact h
      | exc c =>
        rw [e] at h
        exact fun H' kp Cc hc => h H' Cc (fun a o q => kp a o q (fun z => nomatch z)) hc
      | ok pr =>
        obtain ⟨f, ρ'⟩ := pr
        rw [e] at h
        have left : ∀ {F' H' σ'}, Same F0 F' → SR K (bodyC none mg E) ⟨H, F0⟩ F' σ' H' ρ' → Left F0 H F' H' := fun {F' H' σ'} s S => ⟨s, S.fr, fun a o q => S.kp a o q (fun z => nomatch z), fun q u e nt n => S.nf q u e nt n⟩
        cases f with
        | nx => exact fun σ' F' H' s S => h .non F' H' (left s S) rfl
        | rt d => exact fun v σ' F' H' s S rv => h v F' H' (left s S) rv
        | ro d => exact h.elim
        | bk => exact h.elim
        | ct => exact h.elim
end

section
variable {P : Program} {w : World} {K : PySem.W.Frag} {mg : Str → Option Value} {base : Heap} {x : Str} {st : Stmt} {fa : Addr} {fd : FuncData} {N ps : List Str} {k n : Nat}
/-- what a body is worth that hands back a new list -/
def runO (n : Nat) (m : M Fl) (ds : List D) : Res (List D) := match m (startE n ds) with
  | .ok (.ro d, _) => .ok d
  | _ => .bad
theorem fn_O {m : M Fl} (F : FnP K x st fa fd) (S : FnScope N ps (defScope st))
    (hbody : ∀ (cdv : Value) (A : Around) (outer : List PySem.Env) (s : Shared) (H : Hp) (E : XK), Ok (bodyX P w K mg base N x st fa cdv A outer s H E) (bodyC none mg E) k → PSs (bodyX P w K mg base N x st fa cdv A outer s H E) (defBody st) (tS K (bodyC none mg E) m)) :
    FnOk P w K mg base (L2.CX P w) (k + 1) fa fd ps (spO K ps.length (runO N.length m)) := by
  refine F.ok S (fun vs H Q E h => ?_) (fun cdv A outer s H vs Q E hr h => ⟨_, hbody cdv A outer s H E (body_ok S hr), ?_⟩)
  · obtain ⟨ds, F0, _, r, hn, _⟩ := h
    rw [← r.len, hn]
  · obtain ⟨ds, F0, sf, r, hn, h⟩ := h
    have hl := r.len
    refine ⟨⟨H, F0⟩, F0, startE N.length ds, ⟨sf, fun a u _ _ f => f, fun a o e _ => e, start_len hl, fun i s v e1 e2 => ?_, fun i j p h1 h2 => ?_, fun p z => nomatch z⟩, ?_⟩
    · rcases start_at hl e1 e2 with rfl | ⟨d, y, e3, e4, rfl, rfl⟩
      · trivial
      · obtain ⟨y', e5, ry⟩ := r.get' e3
        rw [e4] at e5; cases e5
        exact ⟨y, rfl, ry⟩
    · obtain ⟨s1, e1, o1, e2⟩ := h1
      rcases start_at hl e1 e2 with rfl | ⟨d, y, e3, e4, rfl, _⟩
      · cases o1
      · cases o1
    · unfold runO at h
      cases e : m (startE N.length ds) with
      | bad => rw [e] at h; exact h
      | exc c => rw [e] at h; exact h.elim
      | ok pr =>
        obtain ⟨f, ρ'⟩ := pr
        rw [e] at h
        cases f with
        | ro d => exact fun p xs σ' F' H' s S fp bp hp z rv => h p xs F' H' ⟨s, S.fr, fun a o q => S.kp a o q (fun z => nomatch z), fun q u e nt n => S.nf q u e nt n⟩ fp bp hp z rv
        | nx => exact h.elim
        | rt d => exact h.elim
        | bk => exact h.elim
        | ct => exact h.elim
def startR (n : Nat) (ds es : List D) : En := .own ds :: (es.map .val ++ List.replicate (n - 1 - es.length) .emp)
def runR (n : Nat) (m : M Fl) (ds es : List D) : Res (D × List D) := match m (startR n ds es) with
  | .ok (.rt d, ρ) => match (ρ[0]? : Option Sl) with
    | some (.own ds') => .ok (d, ds')
    | _ => .bad
  | .ok (.nx, ρ) => match (ρ[0]? : Option Sl) with
    | some (.own ds') => .ok (.none, ds')
    | _ => .bad
  | _ => .bad
theorem startR_at {vs : List V} {ds es : List D} {N : List Str} {p : Addr} (h : es.length = vs.length) {i : Nat} {s : Sl} {v : Option V} (e1 : (startR N.length ds es)[i]? = some s) (e2 : (start N (.ref p :: vs))[i]? = some v) : (i = 0 ∧ s = .own ds ∧ v = some (.ref p)) ∨ (s = .emp) ∨ ∃ d x, es[i - 1]? = some d ∧ vs[i - 1]? = some x ∧ s = .val d ∧ v = some x := by
  cases i with
  | zero =>
    unfold startR at e1
    unfold L2.start at e2
    simp at e1 e2
    exact .inl ⟨rfl, e1.symm, e2.symm⟩
  | succ i =>
    right
    unfold startR at e1
    unfold L2.start at e2
    simp only [List.getElem?_cons_succ, List.map_cons, List.cons_append, Nat.add_sub_cancel] at e1 e2 ⊢
    by_cases hi : i < es.length
    · rw [List.getElem?_append_left (by simpa using hi), List.getElem?_map] at e1
      rw [List.getElem?_append_left (by simp; omega), List.getElem?_map] at e2
      obtain ⟨d, ed⟩ : ∃ d, es[i]? = some d := ⟨es[i], by simp [hi]⟩
      obtain ⟨y, ey⟩ : ∃ d, vs[i]? = some d := ⟨vs[i]'(by omega), by simp⟩
      rw [ed] at e1
      rw [ey] at e2
      cases e1
      cases e2
      exact .inr ⟨d, y, ed, ey, rfl, rfl⟩
    · rw [List.getElem?_append_right (by simpa using hi), List.getElem?_replicate] at e1
      split at e1
      · exact .inl (Option.some.inj e1).symm
      · cases e1
/-- THE RULE for a def whose first argument is a list of the caller's that it changes -/
theorem fn_R {m : M Fl} (F : FnP K x st fa fd) (S : FnScope N ps (defScope st)) (hps : ps.length = n + 1)
    (hbody : ∀ (cdv : Value) (A : Around) (outer : List PySem.Env) (s : Shared) (H : Hp) (E : XK) (p : Addr), Ok (bodyX P w K mg base N x st fa cdv A outer s H E) (bodyC (some p) mg E) k → PSs (bodyX P w K mg base N x st fa cdv A outer s H E) (defBody st) (tS K (bodyC (some p) mg E) m)) :
    FnOk P w K mg base (L2.CX P w) (k + 1) fa fd ps (spR K n (runR N.length m)) := by
  refine F.ok S (fun vs H Q E h => ?_) (fun cdv A outer s H vs Q E hr h => ?_)
  · obtain ⟨p, ws, ds, es, F0, xs, rfl, _, _, _, _, _, r, hn, _⟩ := h
    have := r.len
    simp; omega
  · obtain ⟨p, ws, ds, es, F0, xs, rfl, sf, fp, hp, z, r, rs, hn, h⟩ := h
    refine ⟨_, hbody cdv A outer s H E p (body_ok S hr), ?_⟩
    have hl := rs.len
    have hN : n + 1 ≤ N.length := by
      have := congrArg List.length S.pre
      rw [List.length_take] at this
      omega
    refine ⟨⟨H, F0⟩, F0, startR N.length ds es, ⟨sf, fun a u _ _ f => f, fun a o e _ => e, ?_, fun i s v e1 e2 => ?_, fun i j q h1 h2 => ?_, fun q z => ?_⟩, ?_⟩
    · unfold L2.start startR
      simp
      omega
    · rcases startR_at hl e1 e2 with ⟨rfl, rfl, rfl⟩ | rfl | ⟨d, y, e3, e4, rfl, rfl⟩
      · exact ⟨p, xs, rfl, hp, r, ⟨fp, .inr rfl⟩, z⟩
      · trivial
      · obtain ⟨y', e5, ry⟩ := rs.get' e3
        rw [e4] at e5; cases e5
        exact ⟨y, rfl, ry⟩
    · obtain ⟨s1, e1, o1, e2⟩ := h1
      obtain ⟨s2, e3, o2, e4⟩ := h2
      have a1 : i = 0 := by
        rcases startR_at hl e1 e2 with ⟨rfl, _, _⟩ | rfl | ⟨d, y, _, _, rfl, _⟩
        · rfl
        · cases o1
        · cases o1
      have a2 : j = 0 := by
        rcases startR_at hl e3 e4 with ⟨rfl, _, _⟩ | rfl | ⟨d, y, _, _, rfl, _⟩
        · rfl
        · cases o2
        · cases o2
      rw [a1, a2]
    · have z' : some p = some q := z
      cases z'
      exact ⟨rfl, ds, rfl⟩
    · unfold runR at h
      cases e : m (startR N.length ds es) with
      | bad => rw [e] at h; exact h
      | exc c => rw [e] at h; exact h.elim
      | ok pr =>
        obtain ⟨f, ρ'⟩ := pr
        rw [e] at h
        have fin : ∀ {d : D} {ds' : List D}, ρ'[0]? = some (.own ds') → (∀ v F' H' xs', Same F0 F' → Same F' H' → (∀ a o, H a = some o → a ≠ p → H' a = some o) → (∀ q u, H q = some u → NT u → F0 q = none → F' q = none) → H' p = some (.lst xs') → xs'.length ≤ sizeLine → RpAll K F' ds' xs' → Rp K F' d v → Q v H') →
            ∀ v σ' F' H', Same F0 F' → SR K (bodyC (some p) mg E) ⟨H, F0⟩ F' σ' H' ρ' → Rp K F' d v → Q v H' := fun {d ds'} e0 k v σ' F' H' s S rv => by
          obtain ⟨e1, ds2, e2⟩ := S.rf p rfl
          rw [e0] at e2; cases e2
          obtain ⟨q, xs', e3, e4, r', ⟨f', _⟩, z'⟩ := S.sl 0 _ _ e0 e1
          cases e3
          exact k v F' H' xs' s S.fr (fun a o ea hne => S.kp a o ea (fun z => hne (Option.some.inj z).symm)) (fun q u e nt n => S.nf q u e nt n) e4 z' r' rv
        cases f with
        | nx =>
          simp only at h
          cases e0 : ρ'[0]? with
          | none => rw [e0] at h; exact h.elim
          | some s =>
            rw [e0] at h
            cases s with
            | own ds' => exact fun σ' F' H' s S => fin e0 h .non σ' F' H' s S rfl
            | _ => exact h.elim
        | rt d =>
          simp only at h
          cases e0 : ρ'[0]? with
          | none => rw [e0] at h; exact h.elim
          | some s =>
            rw [e0] at h
            cases s with
            | own ds' => exact fin e0 h
            | _ => exact h.elim
        | ro d => exact h.elim
        | bk => exact h.elim
        | ct => exact h.elim
end
end VS

set_option Elab.async false
set_option linter.all false
set_option maxRecDepth 100000
set_option maxHeartbeats 4000000
namespace PySem
set_option maxHeartbeats 1000000 in
theorem meets_enumerate_newB1 {v : Value} {o : Obj} {H : Heap → Prop} (B : Begins v o H) :
    Meets (Builtin.«enumerate.__new__» ⟨[.type "enumerate", v], []⟩) (fun _ R s => H s.heap ∧
      R (.ok (.ret (.ref (s.heap.push o).objs.size))) { s with heap := (s.heap.push o).push { cls := .type "enumerate", data := .fields #[.none, .bool false, .ref s.heap.objs.size, rawInt 0, .none, .none] } }) :=
  .of_wp fun prog w A R s h => by
    obtain ⟨hp, g, d, tk, os⟩ := s; obtain ⟨h1, h⟩ := h
    have hsub := sub_enumerate
    have q1 : ∀ {A' : Around} {E : Value → Shared → Prop} {Q : Value → Shared → Prop}, Q (.ref hp.objs.size) ⟨hp.push o, g, d, tk, os⟩ → wpAny (model prog w) A' (pyIter v) Q E ⟨hp, g, d, tk, os⟩ :=
      fun q => B.iter prog w _ _ ⟨hp, g, d, tk, os⟩ _ h1 q
    wp_walk using q1
    refine wpAny_stack_any fun st => wpAny_pure ?_
    split
    · rename_i c _ _ _ _ _
      cases (c == Value.type "enumerate")
      · wp_walk using q1
        exact ⟨_, rfl, h⟩
      · wp_walk using q1
        exact ⟨_, rfl, h⟩
    · wp_walk using q1
      exact ⟨_, rfl, h⟩
section
variable {prog : Program} {w : World} {A : Around} {E : Value → Shared → Prop} {s : Shared}
theorem enum_begins1 {v : Value} {o : Obj} {H : Heap → Prop} {Q : Value → Shared → Prop} (B : Begins v o H) (h1 : H s.heap)
    (h : ∀ h', IsEnum h' (s.heap.objs.size + 1) s.heap.objs.size 0 .none → h'.get? s.heap.objs.size = some o → h'.objs.size = s.heap.objs.size + 2 →
      (∀ b o, s.heap.get? b = some o → h'.get? b = some o) → Q (.ref (s.heap.objs.size + 1)) { s with heap := h' }) :
    wpAny (model prog w) A (call (.type "enumerate") [v]) Q E s := by
  refine callType_new F.called_enumerate (by decide) (F.typeCall_enumerate_1 _) (F.newCall_enumerate_1 _) (fun obj => F.args_object_init_2 obj _) F.entry_enumerate_new
    (meets_enumerate_newB1 B) ⟨h1, ?_⟩
  have hz : (s.heap.push o).objs.size = s.heap.objs.size + 1 := Heap.size_push ..
  show _ ∧ _
  rw [hz]
  have he : IsEnum ((s.heap.push o).push { cls := .type "enumerate", data := .fields #[.none, .bool false, .ref s.heap.objs.size, rawInt 0, .none, .none] }) (s.heap.objs.size + 1) s.heap.objs.size 0 .none := by
    have := Heap.get?_push_size (s.heap.push o) (o := { cls := .type "enumerate", data := .fields #[.none, .bool false, .ref s.heap.objs.size, rawInt 0, .none, .none] }) rfl
    rw [hz] at this; exact this
  refine ⟨⟨_, he, rfl⟩, h _ he (Heap.get?_push_of_some _ (Heap.get?_push_size _ B.free)) (by rw [Heap.size_push, hz]) fun b o x => Heap.get?_push_of_some _ (Heap.get?_push_of_some _ x)⟩
theorem enum_doneL {e it a : Addr} {items : Array Value} {i : Nat} {k old} {Q : Option Value → Shared → Prop} (hh : A.handled = none) (he : IsEnum s.heap e it k old) (hit : s.heap.IsListIter it a i) (hl : s.heap.IsList a items) (hi : items.size ≤ i)
    (h : ∀ h', Heap.ExtBut it s.heap h' → Q none { s with heap := h' }) : wpAny (model prog w) A (pyNext (.ref e)) Q E s := by
  have hT : s.TypeIs (.ref e) "enumerate" := ⟨_, he, rfl⟩
  exact wpAny_pyNext_enum_endD (n := i) (P := fun _ _ => False) (fp := [it, a]) (St := fun j h => j = i ∧ h.IsListIter it a i ∧ h.IsList a items)
    ⟨fun _ _ st => let ⟨o, ho, _⟩ := st.2.1; ⟨o, ho⟩, fun _ _ _ st hk => ⟨st.1, st.2.1.at fun o e => hk it (by simp) o e, st.2.2.at fun o e => hk a (by simp) o e⟩, fun j s Q E hj st _ => absurd hj (by rw [st.1]; exact Nat.lt_irrefl _), fun s Q E st hE => wpAny_nextOf_list_end hh st.2.1 st.2.2 (Array.getElem?_eq_none hi) hE⟩ he ⟨rfl, hit, hl⟩ h
theorem enum_doneT {e it a : Addr} {items : Array Value} {i : Nat} {k old} {Q : Option Value → Shared → Prop} (hh : A.handled = none) (he : IsEnum s.heap e it k old) (hit : s.heap.IsTupleIter it a i) (hl : s.heap.IsTuple a items) (hi : items.size ≤ i)
    (h : ∀ h', Heap.ExtBut it s.heap h' → Q none { s with heap := h' }) : wpAny (model prog w) A (pyNext (.ref e)) Q E s := by
  have hT : s.TypeIs (.ref e) "enumerate" := ⟨_, he, rfl⟩
  exact wpAny_pyNext_enum_endD (n := i) (P := fun _ _ => False) (fp := [it, a]) (St := fun j h => j = i ∧ h.IsTupleIter it a i ∧ h.IsTuple a items)
    ⟨fun _ _ st => let ⟨o, ho, _⟩ := st.2.1; ⟨o, ho⟩, fun _ _ _ st hk => ⟨st.1, st.2.1.at fun o e => hk it (by simp) o e, st.2.2.at fun o e => hk a (by simp) o e⟩, fun j s Q E hj st _ => absurd hj (by rw [st.1]; exact Nat.lt_irrefl _), fun s Q E st hE => wpAny_nextOf_tuple_end hh st.2.1 st.2.2 (Array.getElem?_eq_none hi) hE⟩ he ⟨rfl, hit, hl⟩ h
end
end PySem
namespace L2
open PySem PySem.Spec PyProof.Rows

/-- the list at a as it stands, each item in a new pair with its number from k0 on -/
def IteCL (K : PySem.W.Frag) (a : Addr) (k0 : Int) : It :=
  ⟨fun i H => ∃ (xs : List V) (x : V), SqL K H a xs ∧ xs[i]? = some x, fun i H v H' => ∃ T x, v = .ref T ∧ H T = none ∧ H' = upd H T (.tup [.int (k0 + (i : Nat)), x]) ∧ ∀ xs, SqL K H a xs → xs[i]? = some x, fun i H => ∃ xs : List V, SqL K H a xs ∧ xs.length ≤ i⟩
theorem turn_enumCL {P : Program} {w : World} {K : PySem.W.Frag} {elts : List Expr} {kk : Nat} {tpos : Pos} (a e it : Addr) (k0 : Int) :
    Turn P w K (.Tuple elts kk tpos) (IteCL K a k0) [e, it] e (fun i h => (∃ old, IsEnum h e it (k0 + ((i : Nat) : Int)) old) ∧ h.IsListIter it a i ∧ e ≠ it) where
  mem := by simp
  obj := fun i h st b hb => by
    obtain ⟨⟨old, he⟩, ⟨o, ho, hc, hd⟩, _⟩ := st
    have e' : b = e ∨ b = it := by simpa using hb
    rcases e' with z | z
    · rw [z]; exact ⟨_, he, fun v q => nomatch q⟩
    · rw [z]; exact ⟨o, ho, fun v q => by rw [hd] at q; cases q⟩
  keep := fun i h h' st k => let ⟨⟨old, he⟩, hi, hne⟩ := st; ⟨⟨old, k e (by simp) _ he⟩, hi.at fun o q => k it (by simp) o q, hne⟩
  item := by
    intro X hP hw hK hc i pins s σ H E I hf st hg
    subst hP hw hK
    obtain ⟨⟨old, he⟩, hit, hne⟩ := st
    obtain ⟨xs, x, hq, hx⟩ := hg
    obtain ⟨its, rv, p, hz⟩ := I.list hq
    have hLs : s.heap.IsList a its.toArray := p.isList
    obtain ⟨u, hu, ru⟩ := rv.get hx
    have hil : i < its.toArray.size := by
      have := (List.getElem?_eq_some_iff.mp hu).1
      simpa using this
    have hae : e ≠ a := fun z => by
      obtain ⟨o, ho, hcc, _⟩ := hLs
      rw [← z, he] at ho; cases ho; exact absurd (show Value.type "enumerate" = Value.type "list" from hcc) (by decide)
    have hai : a ≠ it := fun z => by
      obtain ⟨o, ho, hcc, _⟩ := hLs
      obtain ⟨o2, ho2, hcc2, _⟩ := hit
      rw [z, ho2] at ho; cases ho; rw [hcc2] at hcc; exact absurd hcc (by decide)
    have hel : e < s.heap.objs.size := Heap.lt_size he
    have hitl : it < s.heap.objs.size := by obtain ⟨_, q, _⟩ := hit; exact Heap.lt_size q
    refine wpAny_pyNext_enum_itemC (Draws.list (prog := X.prog) (w := X.w) (A := X.A.in1) (I.ok.hd hc) it a hai its.toArray) he ⟨hit, hLs⟩ hil hne (by simp [hne, hae]) fun x' h' tk hPx ho hit' hT hsz hk => ?_
    have hxu : x' = u := by
      have q : its.toArray[i]? = some x' := hPx
      rw [← Array.getElem?_toList] at q
      rw [hu] at q
      exact (Option.some.inj q).symm
    subst hxu
    refine ⟨_, rfl, wpAny_letOwnedTupleGo_enum (s := { s with heap := h', toks := tk + 1 }) ho fun h'' he' sb => ?_⟩
    have hT2 : h''.get? s.heap.objs.size = some { cls := .type "tuple", data := .seq #[.int (k0 + (i : Nat)) tk, x'] } := (sb.2 _ (Nat.ne_of_gt hel)).trans hT
    have new : ObjOk X.prog X.w (upd H s.heap.objs.size (.tup [.int (k0 + (i : Nat)), x])) h'' s.heap.objs.size (.tup [.int (k0 + (i : Nat)), x]) :=
      ⟨by show 2 ≤ sizeLine; decide, [.int (k0 + (i : Nat)) tk, x'], .cons ⟨_, rfl⟩ (.cons ru .nil), ⟨_, hT2, rfl, _, rfl⟩⟩
    have I1 : Inv X pins σ (upd H s.heap.objs.size (.tup [.int (k0 + (i : Nat)), x])) { s with heap := h'', toks := tk + 1 } :=
      I.turnedNew (ch := [e, it]) (fun b ob hb q => (sb.2 b (fun z => hb (by simp [z]))).trans (hk b ob (fun z => hb (by simp [z])) (fun z => hb (by simp [z])) q)) hf (Nat.le_refl _) new
    refine ⟨.ref s.heap.objs.size, _, I1, rfl, ⟨_, x, rfl, I.hok.fresh (Nat.le_refl _), rfl, fun ys hy => by rw [I.list_inj hy hq]; exact hx⟩, ⟨⟨x', ?_⟩, hit'.1.at fun o q => (sb.2 it (Ne.symm hne)).trans q, hne⟩, fun b hb => ?_⟩
    · have e1 : k0 + ((i + 1 : Nat) : Int) = k0 + (i : Int) + 1 := by omega
      rw [e1]; exact he'
    · have hb' : b < s.heap.objs.size := by
        have e' : b = e ∨ b = it := by simpa using hb
        rcases e' with z | z
        · rw [z]; exact hel
        · rw [z]; exact hitl
      rw [upd_ne (Nat.ne_of_lt hb')]
      exact (hf b hb).1
  done := by
    intro X hP hw hK hc i pins s σ H E I hf st hg
    subst hP hw hK
    obtain ⟨⟨old, he⟩, hit, hne⟩ := st
    obtain ⟨xs, hq, hx⟩ := hg
    obtain ⟨its, rv, p, hz⟩ := I.list hq
    have hLs : s.heap.IsList a its.toArray := p.isList
    obtain ⟨f0, f1, f2, f3, f4, f5⟩ := hf it (by simp)
    have hl := rv.length
    exact enum_doneL (I.ok.hd hc) he hit hLs (by simp; omega) (fun h' eb => ⟨rfl, I.turned (t' := s.toks) (fun b o hb q => eb b o hb q) f0 f1 f3 f4 f5⟩)
  self := fun A i s Q E st h => let ⟨⟨_, he⟩, _⟩ := st; wpAny_pyIter_enum he h

/-- the tuple at a as it stands, each item in a new pair with its number from k0 on -/
def IteCT (K : PySem.W.Frag) (a : Addr) (k0 : Int) : It :=
  ⟨fun i H => ∃ (xs : List V) (x : V), SqT K H a xs ∧ xs[i]? = some x, fun i H v H' => ∃ T x, v = .ref T ∧ H T = none ∧ H' = upd H T (.tup [.int (k0 + (i : Nat)), x]) ∧ ∀ xs, SqT K H a xs → xs[i]? = some x, fun i H => ∃ xs : List V, SqT K H a xs ∧ xs.length ≤ i⟩
theorem turn_enumCT {P : Program} {w : World} {K : PySem.W.Frag} {elts : List Expr} {kk : Nat} {tpos : Pos} (a e it : Addr) (k0 : Int) :
    Turn P w K (.Tuple elts kk tpos) (IteCT K a k0) [e, it] e (fun i h => (∃ old, IsEnum h e it (k0 + ((i : Nat) : Int)) old) ∧ h.IsTupleIter it a i ∧ e ≠ it) where
  mem := by simp
  obj := fun i h st b hb => by
    obtain ⟨⟨old, he⟩, ⟨o, ho, hc, hd⟩, _⟩ := st
    have e' : b = e ∨ b = it := by simpa using hb
    rcases e' with z | z
    · rw [z]; exact ⟨_, he, fun v q => nomatch q⟩
    · rw [z]; exact ⟨o, ho, fun v q => by rw [hd] at q; cases q⟩
  keep := fun i h h' st k => let ⟨⟨old, he⟩, hi, hne⟩ := st; ⟨⟨old, k e (by simp) _ he⟩, hi.at fun o q => k it (by simp) o q, hne⟩
  item := by
    intro X hP hw hK hc i pins s σ H E I hf st hg
    subst hP hw hK
    obtain ⟨⟨old, he⟩, hit, hne⟩ := st
    obtain ⟨xs, x, hq, hx⟩ := hg
    obtain ⟨its, rv, p, hz⟩ := I.tuple hq
    have hLs : s.heap.IsTuple a its.toArray := (show s.heap.IsTuple a its.toArray from p)
    obtain ⟨u, hu, ru⟩ := rv.get hx
    have hil : i < its.toArray.size := by
      have := (List.getElem?_eq_some_iff.mp hu).1
      simpa using this
    have hae : e ≠ a := fun z => by
      obtain ⟨o, ho, hcc, _⟩ := hLs
      rw [← z, he] at ho; cases ho; exact absurd (show Value.type "enumerate" = Value.type "tuple" from hcc) (by decide)
    have hai : a ≠ it := fun z => by
      obtain ⟨o, ho, hcc, _⟩ := hLs
      obtain ⟨o2, ho2, hcc2, _⟩ := hit
      rw [z, ho2] at ho; cases ho; rw [hcc2] at hcc; exact absurd hcc (by decide)
    have hel : e < s.heap.objs.size := Heap.lt_size he
    have hitl : it < s.heap.objs.size := by obtain ⟨_, q, _⟩ := hit; exact Heap.lt_size q
    refine wpAny_pyNext_enum_itemC (Draws.tuple (prog := X.prog) (w := X.w) (A := X.A.in1) (I.ok.hd hc) it a hai its.toArray) he ⟨hit, hLs⟩ hil hne (by simp [hne, hae]) fun x' h' tk hPx ho hit' hT hsz hk => ?_
    have hxu : x' = u := by
      have q : its.toArray[i]? = some x' := hPx
      rw [← Array.getElem?_toList] at q
      rw [hu] at q
      exact (Option.some.inj q).symm
    subst hxu
    refine ⟨_, rfl, wpAny_letOwnedTupleGo_enum (s := { s with heap := h', toks := tk + 1 }) ho fun h'' he' sb => ?_⟩
    have hT2 : h''.get? s.heap.objs.size = some { cls := .type "tuple", data := .seq #[.int (k0 + (i : Nat)) tk, x'] } := (sb.2 _ (Nat.ne_of_gt hel)).trans hT
    have new : ObjOk X.prog X.w (upd H s.heap.objs.size (.tup [.int (k0 + (i : Nat)), x])) h'' s.heap.objs.size (.tup [.int (k0 + (i : Nat)), x]) :=
      ⟨by show 2 ≤ sizeLine; decide, [.int (k0 + (i : Nat)) tk, x'], .cons ⟨_, rfl⟩ (.cons ru .nil), ⟨_, hT2, rfl, _, rfl⟩⟩
    have I1 : Inv X pins σ (upd H s.heap.objs.size (.tup [.int (k0 + (i : Nat)), x])) { s with heap := h'', toks := tk + 1 } :=
      I.turnedNew (ch := [e, it]) (fun b ob hb q => (sb.2 b (fun z => hb (by simp [z]))).trans (hk b ob (fun z => hb (by simp [z])) (fun z => hb (by simp [z])) q)) hf (Nat.le_refl _) new
    refine ⟨.ref s.heap.objs.size, _, I1, rfl, ⟨_, x, rfl, I.hok.fresh (Nat.le_refl _), rfl, fun ys hy => by rw [I.tuple_inj hy hq]; exact hx⟩, ⟨⟨x', ?_⟩, hit'.1.at fun o q => (sb.2 it (Ne.symm hne)).trans q, hne⟩, fun b hb => ?_⟩
    · have e1 : k0 + ((i + 1 : Nat) : Int) = k0 + (i : Int) + 1 := by omega
      rw [e1]; exact he'
    · have hb' : b < s.heap.objs.size := by
        have e' : b = e ∨ b = it := by simpa using hb
        rcases e' with z | z
        · rw [z]; exact hel
        · rw [z]; exact hitl
      rw [upd_ne (Nat.ne_of_lt hb')]
      exact (hf b hb).1
  done := by
    intro X hP hw hK hc i pins s σ H E I hf st hg
    subst hP hw hK
    obtain ⟨⟨old, he⟩, hit, hne⟩ := st
    obtain ⟨xs, hq, hx⟩ := hg
    obtain ⟨its, rv, p, hz⟩ := I.tuple hq
    have hLs : s.heap.IsTuple a its.toArray := (show s.heap.IsTuple a its.toArray from p)
    obtain ⟨f0, f1, f2, f3, f4, f5⟩ := hf it (by simp)
    have hl := rv.length
    exact enum_doneT (I.ok.hd hc) he hit hLs (by simp; omega) (fun h' eb => ⟨rfl, I.turned (t' := s.toks) (fun b o hb q => eb b o hb q) f0 f1 f3 f4 f5⟩)
  self := fun A i s Q E st h => let ⟨⟨_, he⟩, _⟩ := st; wpAny_pyIter_enum he h

theorem enum_startL {X : Cx} {pins : List (Addr × Obj)} {σ : L2.St} {H : Hp} {s : Shared} {R : It → Hp → Prop} {elts : List Expr} {kk : Nat} {tpos : Pos} {a : Addr} {xs : List V} {E : Value → Shared → Prop} {h' : Heap} {k : Int} (I : Inv X pins σ H s) (hq : SqL X.K H a xs)
    (he : IsEnum h' (s.heap.objs.size + 1) s.heap.objs.size k .none) (hit : h'.get? s.heap.objs.size = some { cls := .type "list_iterator", data := .fields #[.ref a, .int 0 0] }) (hk : ∀ b o, s.heap.get? b = some o → h'.get? b = some o) (q : R (IteCL X.K a k) H) :
    wpAny (model X.prog X.w) X.A (pyIter (.ref (s.heap.objs.size + 1))) (PIE X pins σ (.Tuple elts kk tpos) R) E { s with heap := h' } := by
  refine wpAny_pyIter_enum he ?_
  have I2 : Inv X pins σ H { s with heap := h' } := I.kept (t' := s.toks) hk
  refine ⟨s.heap.objs.size + 1, [s.heap.objs.size + 1, s.heap.objs.size], _, _, H, rfl, I2, turn_enumCL a (s.heap.objs.size + 1) s.heap.objs.size k, ⟨⟨.none, by simpa using he⟩, ⟨_, hit, rfl, rfl⟩, Nat.succ_ne_self _⟩, fun b hb => ?_, q⟩
  have e' : b = s.heap.objs.size + 1 ∨ b = s.heap.objs.size := by simpa using hb
  have hle : s.heap.objs.size ≤ b := by
    rcases e' with z | z
    · rw [z]; exact Nat.le_add_right _ _
    · rw [z]; exact Nat.le_refl _
  exact I.fpOk hle (I.hok.fresh hle)
theorem enum_startT {X : Cx} {pins : List (Addr × Obj)} {σ : L2.St} {H : Hp} {s : Shared} {R : It → Hp → Prop} {elts : List Expr} {kk : Nat} {tpos : Pos} {a : Addr} {xs : List V} {E : Value → Shared → Prop} {h' : Heap} {k : Int} (I : Inv X pins σ H s) (hq : SqT X.K H a xs)
    (he : IsEnum h' (s.heap.objs.size + 1) s.heap.objs.size k .none) (hit : h'.get? s.heap.objs.size = some { cls := .type "tuple_iterator", data := .fields #[.ref a, .int 0 0] }) (hk : ∀ b o, s.heap.get? b = some o → h'.get? b = some o) (q : R (IteCT X.K a k) H) :
    wpAny (model X.prog X.w) X.A (pyIter (.ref (s.heap.objs.size + 1))) (PIE X pins σ (.Tuple elts kk tpos) R) E { s with heap := h' } := by
  refine wpAny_pyIter_enum he ?_
  have I2 : Inv X pins σ H { s with heap := h' } := I.kept (t' := s.toks) hk
  refine ⟨s.heap.objs.size + 1, [s.heap.objs.size + 1, s.heap.objs.size], _, _, H, rfl, I2, turn_enumCT a (s.heap.objs.size + 1) s.heap.objs.size k, ⟨⟨.none, by simpa using he⟩, ⟨_, hit, rfl, rfl⟩, Nat.succ_ne_self _⟩, fun b hb => ?_, q⟩
  have e' : b = s.heap.objs.size + 1 ∨ b = s.heap.objs.size := by simpa using hb
  have hle : s.heap.objs.size ≤ b := by
    rcases e' with z | z
    · rw [z]; exact Nat.le_add_right _ _
    · rw [z]; exact Nat.le_refl _
  exact I.fpOk hle (I.hok.fresh hle)
def iEnumA (K : PySem.W.Frag) (k : Int) (tl : TE) : TI := fun σ H R => tl σ H fun x H1 => ∃ a xs, x = .ref a ∧ ((SqL K H1 a xs ∧ R (IteCL K a k) H1) ∨ (SqT K H1 a xs ∧ R (IteCT K a k) H1))
theorem pi_enumA {X : Cx} {e : Expr} {te : TE} {p pos tpos : Pos} {elts : List Expr} {kk : Nat} (hg : Gl X "enumerate") (hm : X.mg "enumerate" = none) (ha : PE X e te) (hs : starEach [e] X.env = (false, eval e X.env) :: starEach [] X.env := by rfl) :
    PI X (.Tuple elts kk tpos) (.Call (.Name "enumerate" p) [e] [] pos) (iEnumA X.K 0 te) := by
  refine ⟨fun pins s σ H R I h => ?_⟩
  refine Call_ (ld_blt I hg hm boot_enumerate (PyProof.Rows.callWith_type1 (one_arg ha I h (fun v s1 x H1 I1 r q1 => ?_) hs) hs))
  obtain ⟨a, xs, ex, q⟩ := q1
  subst ex
  cases r
  rcases q with ⟨hq, q⟩ | ⟨hq, q⟩
  · obtain ⟨its, rv, p', hz⟩ := I1.list hq
    exact enum_begins1 (begins_list a its.toArray) p'.isList fun h' he hit hsz hk => enum_startL I1 hq he hit hk q
  · obtain ⟨its, rv, p', hz⟩ := I1.tuple hq
    exact enum_begins1 (begins_tuple a its.toArray) (show s1.heap.IsTuple a its.toArray from p') fun h' he hit hsz hk => enum_startT I1 hq he hit hk q
end L2

set_option Elab.async false
set_option linter.all false
set_option maxRecDepth 100000
set_option maxHeartbeats 4000000
namespace L2
open PySem PySem.Spec PyProof.Rows
section
variable {M : Model} {A : Around} {E : Value → Shared → Prop} {s : Shared} {env : PySem.Env}
theorem callWith_type_kwB {pos : Pos} {T : String} {first : List Value} {args : List (Bool × Sem Value)} {keywords : List (Option Str × Sem Value)} {Q : Value → Shared → Prop}
    (hplain : args.any (·.1) = false) (hkw : keywords.any (·.1.isNone) = false)
    (h : wpAny M A (evalArgs (.type T) true args keywords) (fun a s₁ => wpAny M A (call (.type T) (first ++ a.pos) a.kw) Q E s₁) E s) :
    wpAny M A (callWith pos (.type T) first args keywords) Q E s := by
  unfold callWith
  refine wpAny_bind (wpAny_holding (wpAny_mono h (fun a s₁ h₁ => wpAny_bind (wpAny_standAt ?_)) fun _ _ x => x))
  simp only [hplain, hkw, Bool.or_false]
  refine wpAny_bind (wpAny_pure ?_)
  exact wpAny_bind (wpAny_mono h₁ (fun r s₂ hr => wpAny_bind (wpAny_holding (wpAny_point (wpAny_pure hr)))) fun _ _ x => x)
theorem callWith_typeK {pos : Pos} {T : String} {e : Expr} {rest : List Expr} {kws : List Keyword} {Q : Value → Shared → Prop}
    (h : wpAny M A (spliced (backTo pos (starEach (e :: rest) env))) (fun vs s₁ => wpAny M A (evalAll ((backToKw pos (keywordEach kws env)).map (·.2)))
      (fun kvs s₂ => wpAny M A (call (.type T) vs (((backToKw pos (keywordEach kws env)).filterMap (·.1)).zip kvs)) Q E s₂) E s₁) E s)
    (he : backTo pos (starEach (e :: rest) env) = (false, eval e env) :: backTo pos (starEach rest env) := by rfl)
    (hplain : (backTo pos (starEach (e :: rest) env)).any (·.1) = false := by rfl)
    (hall : (backToKw pos (keywordEach kws env)).all (·.1.isSome) = true := by rfl)
    (hkw : (backToKw pos (keywordEach kws env)).any (·.1.isNone) = false := by rfl) :
    wpAny M A (callWith pos (.type T) [] (backTo pos (starEach (e :: rest) env)) (backToKw pos (keywordEach kws env))) Q E s := by
  refine callWith_type_kwB hplain hkw ?_
  rw [he] at h ⊢
  exact evalArgs_kwB hall h
end
theorem pi_enumK {X : Cx} {e : Expr} {te : TE} {p pos tpos kp cp : Pos} {elts : List Expr} {kk cj : Nat} {i : Int} (h0 : -(2 ^ 63) ≤ i) (h1 : i < 2 ^ 63) (hg : Gl X "enumerate") (hm : X.mg "enumerate" = none) (ha : PE X e te) (hs : starEach [e] X.env = (false, eval e X.env) :: starEach [] X.env := by rfl) :
    PI X (.Tuple elts kk tpos) (.Call (.Name "enumerate" p) [e] [⟨some "start", .Constant (.int i) cj cp, kp⟩] pos) (iEnumA X.K i te) := by
  refine ⟨fun pins s σ H R I h => ?_⟩
  refine wpAny_Call_Name_kw (ld_blt I hg hm boot_enumerate ?_)
  refine callWith_typeK (one_arg ha I h (fun v s1 x H1 I1 r q1 => ?_) hs) (by rw [hs]; rfl) (by rw [hs]; rfl)
  have hk : PK X [⟨some "start", .Constant (.int i) cj cp, kp⟩] (tCons (tC (.int i)) tNil) := pk_cons pe_int pk_nil
  refine thn (hk.run pos pins s1 σ H1 (fun vs H2 => vs = [.int i] ∧ H2 = H1) I1 ⟨rfl, rfl⟩) fun us s2 ⟨vs, H2, I2, r2, e1, e2⟩ => ?_
  subst e1 e2
  cases r2 with
  | cons ri rr =>
    cases rr
    obtain ⟨t, rfl⟩ := ri
    obtain ⟨a, xs, ex, q⟩ := q1
    subst ex
    cases r
    rcases q with ⟨hq, q⟩ | ⟨hq, q⟩
    · obtain ⟨its, rv, p', hz⟩ := I2.list hq
      exact enum_begins_start (begins_list a its.toArray) p'.isList h0 h1 fun h' he hit hsz hk => enum_startL I2 hq he hit hk q
    · obtain ⟨its, rv, p', hz⟩ := I2.tuple hq
      exact enum_begins_start (begins_tuple a its.toArray) (show s2.heap.IsTuple a its.toArray from p') h0 h1 fun h' he hit hsz hk => enum_startT I2 hq he hit hk q
end L2
namespace VS
open PySem PySem.Spec PyProof.Rows L2
def enumD (k : Int) : List D → List D
  | [] => []
  | d :: ds => .tuple [.int k, d] :: enumD (k + 1) ds
theorem enumD_get : ∀ {ds : List D} {k : Int} {i : Nat}, (enumD k ds)[i]? = (ds[i]?).map fun d => .tuple [.int (k + i), d]
  | [], k, i => by simp [enumD]
  | d :: ds, k, 0 => by simp [enumD]
  | d :: ds, k, i + 1 => by
    simp only [enumD, List.getElem?_cons_succ]
    rw [enumD_get]
    congr 2
    funext d
    congr 3
    push_cast
    try omega
theorem enumD_len : ∀ {ds : List D} {k : Int}, (enumD k ds).length = ds.length
  | [], k => rfl
  | d :: ds, k => by simp [enumD, enumD_len]
def zipD : List D → List D → List D
  | a :: as, b :: bs => .tuple [a, b] :: zipD as bs
  | _, _ => []
theorem zipD_get : ∀ {as bs : List D} {i : Nat} {d : D}, (zipD as bs)[i]? = some d → ∃ a b, as[i]? = some a ∧ bs[i]? = some b ∧ d = .tuple [a, b]
  | [], _, i, d, h => by simp [zipD] at h
  | _ :: _, [], i, d, h => by simp [zipD] at h
  | a :: as, b :: bs, 0, d, h => by simp [zipD] at h; exact ⟨a, b, rfl, rfl, h.symm⟩
  | a :: as, b :: bs, i + 1, d, h => by simpa using zipD_get (as := as) (bs := bs) (i := i) (by simpa [zipD] using h)
theorem zipD_len : ∀ {as bs : List D}, (zipD as bs).length = min as.length bs.length
  | [], _ => by simp [zipD]
  | _ :: _, [] => by simp [zipD]
  | a :: as, b :: bs => by simp [zipD, zipD_len]
section
variable {X : Cx} {C : SC} {B : Bs} {a b c tg : Expr} {pos p p2 tpos cp kp : Pos} {va vb : M D} {elts : List Expr} {kk cj : Nat}
theorem two_le : 2 ≤ sizeLine := by decide
theorem walks_enumL {K : PySem.W.Frag} {F : Hp} {a : Addr} {xs : List V} {ds : List D} {k : Int} (h : Rd F a (.lst xs)) (r : RpAll K F ds xs) : Walks K (IteCL K a k) F (enumD k ds) := fun i H s => by
  have hq : SqL K H a xs := .inl (rd_same s h)
  refine ⟨fun d e => ?_, fun e => ⟨xs, hq, by rw [← r.len]; rw [enumD_len] at e; exact e⟩⟩
  rw [enumD_get] at e
  cases ed : ds[i]? with
  | none => rw [ed] at e; cases e
  | some d' =>
    rw [ed] at e
    cases e
    obtain ⟨v, ev, rv⟩ := r.get' ed
    refine ⟨⟨xs, v, hq, ev⟩, fun x H' ⟨T, y, e1, nT, e2, e3⟩ => .inr ⟨T, _, _, nT, e2, e1, rfl, two_le, ?_⟩⟩
    have e4 := e3 xs hq
    rw [ev] at e4
    cases e4
    exact .cons rfl (.cons rv .nil)
theorem walks_enumT {K : PySem.W.Frag} {F : Hp} {a : Addr} {xs : List V} {ds : List D} {k : Int} (h : F a = some (.tup xs)) (r : RpAll K F ds xs) : Walks K (IteCT K a k) F (enumD k ds) := fun i H s => by
  have hq : SqT K H a xs := .of (s _ _ h)
  refine ⟨fun d e => ?_, fun e => ⟨xs, hq, by rw [← r.len]; rw [enumD_len] at e; exact e⟩⟩
  rw [enumD_get] at e
  cases ed : ds[i]? with
  | none => rw [ed] at e; cases e
  | some d' =>
    rw [ed] at e
    cases e
    obtain ⟨v, ev, rv⟩ := r.get' ed
    refine ⟨⟨xs, v, hq, ev⟩, fun x H' ⟨T, y, e1, nT, e2, e3⟩ => .inr ⟨T, _, _, nT, e2, e1, rfl, two_le, ?_⟩⟩
    have e4 := e3 xs hq
    rw [ev] at e4
    cases e4
    exact .cons rfl (.cons rv .nil)
def gEnum (k : Int) : D → Res (List D)
  | .list xs => .ok (enumD k xs)
  | .tuple xs => .ok (enumD k xs)
  | _ => .bad
theorem enum_read {k : Int} {σ : L2.St} {H : Hp} {R : It → Hp → Prop} (q : tI X.K C (va >>= fun d => M.lift (gEnum k d)) σ H R) : iEnumA X.K k (tM X.K C va) σ H R := by
  obtain ⟨B, F, ρ, S, q⟩ := q
  refine tM.of S q.bind fun d ρ1 h1 v F1 H1 s1 S1 r1 => ?_
  cases d <;> try exact (RX.bad_elim h1 rfl).elim
  · obtain ⟨p, xs, rfl, fp, zx, r⟩ := r1
    exact ⟨p, xs, rfl, .inl ⟨.inl (rd_same S1.fr fp), h1 _ F1 H1 s1 S1 (walks_enumL fp r)⟩⟩
  · obtain ⟨p, xs, rfl, fp, zx, r⟩ := r1
    exact ⟨p, xs, rfl, .inr ⟨.of (S1.fr _ _ fp), h1 _ F1 H1 s1 S1 (walks_enumT fp r)⟩⟩
theorem mi_enum (hm : X.mg "enumerate" = none) (ha : PE X a (tM X.K C va)) (hg : Gl X "enumerate" := by rfl) (hs : starEach [a] X.env = (false, eval a X.env) :: starEach [] X.env := by rfl) : PI X (.Tuple elts kk tpos) (.Call (.Name "enumerate" p) [a] [] pos) (tI X.K C (va >>= fun d => M.lift (gEnum 0 d))) :=
  ⟨fun pins s σ H R I q => (pi_enumA hg hm ha hs).run pins s σ H R I (enum_read q)⟩
theorem mi_enumK {i : Int} (h0 : -(2 ^ 63) ≤ i) (h1 : i < 2 ^ 63) (hm : X.mg "enumerate" = none) (ha : PE X a (tM X.K C va)) (hg : Gl X "enumerate" := by rfl) (hs : starEach [a] X.env = (false, eval a X.env) :: starEach [] X.env := by rfl) : PI X (.Tuple elts kk tpos) (.Call (.Name "enumerate" p) [a] [⟨some "start", .Constant (.int i) cj cp, kp⟩] pos) (tI X.K C (va >>= fun d => M.lift (gEnum i d))) :=
  ⟨fun pins s σ H R I q => (pi_enumK h0 h1 hg hm ha hs).run pins s σ H R I (enum_read q)⟩
def gZip : D → D → Res (List D)
  | .list xs, .list ys => .ok (zipD xs ys)
  | .tuple xs, .tuple ys => .ok (zipD xs ys)
  | _, _ => .bad
theorem walks_zipL {K : PySem.W.Frag} {F : Hp} {a b : Addr} {xs ys : List V} {ds es : List D} (h : Rd F a (.lst xs)) (r : RpAll K F ds xs) (h' : Rd F b (.lst ys)) (r' : RpAll K F es ys) : Walks K (Itz K a b) F (zipD ds es) := fun i H s => by
  have hq : SqL K H a xs := .inl (rd_same s h)
  have hq' : SqL K H b ys := .inl (rd_same s h')
  refine ⟨fun d e => ?_, fun e => ⟨xs, ys, hq, hq', ?_⟩⟩
  · obtain ⟨d1, d2, e1, e2, rfl⟩ := zipD_get e
    obtain ⟨v, ev, rv⟩ := r.get' e1
    obtain ⟨u, eu, ru⟩ := r'.get' e2
    refine ⟨⟨xs, ys, v, u, hq, hq', ev, eu⟩, fun x H' ⟨T, y, z, e1, nT, e2, e3, e4⟩ => .inr ⟨T, _, _, nT, e2, e1, rfl, two_le, ?_⟩⟩
    have e5 := e3 xs hq
    have e6 := e4 ys hq'
    rw [ev] at e5
    rw [eu] at e6
    cases e5
    cases e6
    exact .cons rv (.cons ru .nil)
  · rw [zipD_len, r.len, r'.len] at e
    omega
theorem walks_zipT {K : PySem.W.Frag} {F : Hp} {a b : Addr} {xs ys : List V} {ds es : List D} (h : F a = some (.tup xs)) (r : RpAll K F ds xs) (h' : F b = some (.tup ys)) (r' : RpAll K F es ys) : Walks K (RZ.ItzT K a b) F (zipD ds es) := fun i H s => by
  have hq : SqT K H a xs := .of (s _ _ h)
  have hq' : SqT K H b ys := .of (s _ _ h')
  refine ⟨fun d e => ?_, fun e => ⟨xs, ys, hq, hq', ?_⟩⟩
  · obtain ⟨d1, d2, e1, e2, rfl⟩ := zipD_get e
    obtain ⟨v, ev, rv⟩ := r.get' e1
    obtain ⟨u, eu, ru⟩ := r'.get' e2
    refine ⟨⟨xs, ys, v, u, hq, hq', ev, eu⟩, fun x H' ⟨T, y, z, e1, nT, e2, e3, e4⟩ => .inr ⟨T, _, _, nT, e2, e1, rfl, two_le, ?_⟩⟩
    have e5 := e3 xs hq
    have e6 := e4 ys hq'
    rw [ev] at e5
    rw [eu] at e6
    cases e5
    cases e6
    exact .cons rv (.cons ru .nil)
  · rw [zipD_len, r.len, r'.len] at e
    omega
theorem mi_zip (hm : X.mg "zip" = none) (ha : PE X a (tM X.K C va)) (hb : PE X b (tM X.K C vb)) (hg : Gl X "zip" := by rfl) (hs1 : starEach [a, b] X.env = (false, eval a X.env) :: starEach [b] X.env := by rfl) (hs2 : starEach [b] X.env = (false, eval b X.env) :: starEach [] X.env := by rfl) : PI X (.Tuple elts kk tpos) (.Call (.Name "zip" p) [a, b] [] pos) (tI X.K C (va >>= fun d => vb >>= fun e => M.lift (gZip d e))) :=
  ⟨fun pins s σ H R I q => (RZ.pi_zipA hg hm (pa_cons ha (pa_cons hb pa_nil hs2) hs1) hs1 (by rw [hs2]; rfl)).run pins s σ H R I (by
    obtain ⟨B, F, ρ, S, q⟩ := q
    refine tM.of S q.bind fun d ρ1 h1 v F1 H1 s1 S1 r1 => ?_
    refine tM.of S1 h1.bind fun e ρ2 h2 u F2 H2 s2 S2 r2 => ?_
    have r1 := r1.mono s2
    cases d <;> try exact (RX.bad_elim h2 rfl).elim
    · cases e <;> try exact (RX.bad_elim h2 rfl).elim
      obtain ⟨p, xs, rfl, fp, zx, r⟩ := r1
      obtain ⟨p', ys, rfl, fp', zy, r'⟩ := r2
      exact ⟨p, p', xs, ys, rfl, .inl ⟨.inl (rd_same S2.fr fp), .inl (rd_same S2.fr fp'), h2 _ F2 H2 (s1.trans s2) S2 (walks_zipL fp r fp' r')⟩⟩
    · cases e <;> try exact (RX.bad_elim h2 rfl).elim
      obtain ⟨p, xs, rfl, fp, zx, r⟩ := r1
      obtain ⟨p', ys, rfl, fp', zy, r'⟩ := r2
      exact ⟨p, p', xs, ys, rfl, .inr ⟨.of (S2.fr _ _ fp), .of (S2.fr _ _ fp'), h2 _ F2 H2 (s1.trans s2) S2 (walks_zipT fp r fp' r')⟩⟩)⟩
end
end VS

set_option Elab.async false
set_option linter.all false
set_option maxRecDepth 100000
set_option maxHeartbeats 4000000
namespace L2
open PySem PySem.Spec PyProof.Rows
section
variable {X : Cx}
/-- x in l, l a list or a tuple of data -/
def rInE (K : PySem.W.Frag) (neg : Bool) : R2 := fun x y H Q => ∃ d ds, Dp K H x d ∧ (Dp K H y (.list ds) ∨ Dp K H y (.tuple ds)) ∧ SeqAt.shaped d = true ∧ SeqAt.shaped (.list ds) = true ∧ Q (.bl (if neg then !(ds.any fun z => PyData.eqv z d) else ds.any fun z => PyData.eqv z d)) H
theorem room_in {A : Around} {ds : List PyData} {d : PyData} (h : SeqAt.shaped d = true) (hu : A.units + 65 < cLine) : A.units + 1 + min (PyData.depthAll ds) d.depth < cLine := by
  have h1 := SeqAt.depth_of_shaped h
  omega
theorem op_inE (hu : X.A.units + 65 < cLine) : OpR X (compareOp .In) (rInE X.K false) := by
  intro pins s σ H x y v u Q I rx ry h
  obtain ⟨d, ds, hd, he, sd, se, q⟩ := h
  obtain ⟨as, r1⟩ := Dp.reads I d x v hd rx
  have cl : PyData.canLayAll0 ds = true := by simpa [PyData.canLay0] using SeqAt.canLay_of_shaped se
  rcases he with he | he
  · obtain ⟨bs, r2⟩ := Dp.reads I (.list ds) y u he ry
    exact SeqAt.in_list_reads r2 r1 cl (SeqAt.canLay_of_shaped sd) (room_in sd hu) ⟨.bl _, H, I, rfl, q⟩
  · obtain ⟨bs, r2⟩ := Dp.reads I (.tuple ds) y u he ry
    exact SeqAt.in_tuple_reads r2 r1 cl (SeqAt.canLay_of_shaped sd) (room_in sd hu) ⟨.bl _, H, I, rfl, q⟩
theorem op_notInE (hu : X.A.units + 65 < cLine) : OpR X (compareOp .NotIn) (rInE X.K true) := by
  intro pins s σ H x y v u Q I rx ry h
  obtain ⟨d, ds, hd, he, sd, se, q⟩ := h
  obtain ⟨as, r1⟩ := Dp.reads I d x v hd rx
  have cl : PyData.canLayAll0 ds = true := by simpa [PyData.canLay0] using SeqAt.canLay_of_shaped se
  rcases he with he | he
  · obtain ⟨bs, r2⟩ := Dp.reads I (.list ds) y u he ry
    exact SeqAt.notIn_list_reads r2 r1 cl (SeqAt.canLay_of_shaped sd) (room_in sd hu) ⟨.bl _, H, I, rfl, q⟩
  · obtain ⟨bs, r2⟩ := Dp.reads I (.tuple ds) y u he ry
    exact SeqAt.notIn_tuple_reads r2 r1 cl (SeqAt.canLay_of_shaped sd) (room_in sd hu) ⟨.bl _, H, I, rfl, q⟩
end
end L2
namespace VS
open PySem PySem.Spec PyProof.Rows L2
section
variable {X : Cx} {C : SC} {B : Bs} {a b c e tg : Expr} {pos p p2 : Pos} {x y : Str} {k j : Nat} {ma mb : M (M D)} {m va vb : M D} {ms : M (List D)} {es : List Expr} {n : Nat}
theorem Ok.units65 {k : Nat} (c : Ok X C k) : X.A.units + 65 < cLine := by have := c.room.un; omega
theorem canAll {ds : List D} (h : SeqAt.shaped (.list ds) = true) : (PyData.list ds).canLay0 = true := SeqAt.canLay_of_shaped h
theorem canAllT {ds : List D} (h : SeqAt.shaped (.list ds) = true) : (PyData.tuple ds).canLay0 = true := by
  have := SeqAt.canLay_of_shaped h
  simpa [PyData.canLay0] using this
def gIn (neg : Bool) (d e : D) : Res D := match e with
  | .list ds => if (SeqAt.shaped d && SeqAt.shaped (.list ds)) = true then .ok (.bool (if neg then !(ds.any fun z => PyData.eqv z d) else ds.any fun z => PyData.eqv z d)) else .bad
  | .tuple ds => if (SeqAt.shaped d && SeqAt.shaped (.list ds)) = true then .ok (.bool (if neg then !(ds.any fun z => PyData.eqv z d) else ds.any fun z => PyData.eqv z d)) else .bad
  | _ => .bad
theorem o_inE {neg : Bool} : Op2 X C (gIn neg) (rInE X.K neg) := fun B F σ H ρ x y d e Q S rx ry h => by
  cases e <;> try exact (RX.bad_elim h rfl).elim
  all_goals
    rename_i ds
    by_cases p : (SeqAt.shaped d && SeqAt.shaped (.list ds)) = true
    · obtain ⟨p1, p2⟩ := Bool.and_eq_true_iff.mp p
      refine ⟨d, ds, rpv_dp S.fr rx (SeqAt.canLay_of_shaped p1), ?_, p1, p2, pd_bl S h (by simp only [gIn, if_pos p])⟩
      first
        | exact .inl (rpv_dp S.fr ry (canAll p2))
        | exact .inr (rpv_dp S.fr ry (canAllT p2))
    · exact (RX.bad_elim h (by simp only [gIn, if_neg p])).elim
theorem o_in (hu : X.A.units + 65 < cLine) : OpD X C (compareOp .In) (gIn false) := ⟨_, op_inE hu, o_inE⟩
theorem o_notIn (hu : X.A.units + 65 < cLine) : OpD X C (compareOp .NotIn) (gIn true) := ⟨_, op_notInE hu, o_inE⟩
/-! ### defs by what they promise -/
structure DefV (P : Program) (w : World) (K : PySem.W.Frag) (mg : Str → Option Value) (base : Heap) (k : Nat) (x : Str) (n : Nat) (f : List D → Res D) : Prop where
  ex : ∃ fa fd ps, mg x = some (.ref fa) ∧ PySem.W.keepIn K (.ref fa) = true ∧ Binds K fd ps [] ∧ FnOk P w K mg base (L2.CX P w) k fa fd ps (spV K mg n f)
structure DefO (P : Program) (w : World) (K : PySem.W.Frag) (mg : Str → Option Value) (base : Heap) (k : Nat) (x : Str) (n : Nat) (f : List D → Res (List D)) : Prop where
  ex : ∃ fa fd ps, mg x = some (.ref fa) ∧ PySem.W.keepIn K (.ref fa) = true ∧ Binds K fd ps [] ∧ FnOk P w K mg base (L2.CX P w) k fa fd ps (spO K n f)
structure DefR (P : Program) (w : World) (K : PySem.W.Frag) (mg : Str → Option Value) (base : Heap) (k : Nat) (x : Str) (n : Nat) (f : List D → List D → Res (D × List D)) : Prop where
  ex : ∃ fa fd ps, mg x = some (.ref fa) ∧ PySem.W.keepIn K (.ref fa) = true ∧ Binds K fd ps [] ∧ FnOk P w K mg base (L2.CX P w) k fa fd ps (spR K n f)
/-- arguments of a known number -/
structure PAn (X : Cx) (C : SC) (es : List Expr) (ms : M (List D)) (n : Nat) : Prop where
  pa : PA X es (tA X.K C ms)
  len : ∀ ρ ds ρ', ms ρ = .ok (ds, ρ') → ds.length = n
theorem an_nil : PAn X C [] (pure []) 0 := ⟨ma_nil, len_nil⟩
theorem an_cons (ha : PE X a (tM X.K C va)) (h : PAn X C es ms n) (hs : starEach (a :: es) X.env = (false, eval a X.env) :: starEach es X.env := by rfl) : PAn X C (a :: es) (eCons va ms) (n + 1) := ⟨ma_cons ha h.pa hs, len_cons h.len⟩
theorem mv_call {f : List D → Res D} (G : DefV X.prog X.w X.K X.mg X.base j x n f) (c : Ok X C k) (hj : j ≤ k) (ha : PAn X C (a :: es) ms n) (hg : Gl X x := by rfl) (hdb : (x == ("__debug__" : Str)) = false := by decide)
    (he : starEach (a :: es) X.env = (false, eval a X.env) :: starEach es X.env := by rfl) (hpl : (backTo pos (starEach es X.env)).any (·.1) = false := by rfl) : PE X (.Call (.Name x p) (a :: es) [] pos) (tM X.K C (eCall f ms)) :=
  let ⟨_, _, _, hm, hk, hb, G⟩ := G
  m_call G c hj hm hk hb ha.pa hg hdb he hpl ha.len
theorem mv_call0 {f : List D → Res D} (G : DefV X.prog X.w X.K X.mg X.base j x 0 f) (c : Ok X C k) (hj : j ≤ k) (hg : Gl X x := by rfl) (hdb : (x == ("__debug__" : Str)) = false := by decide) : PE X (.Call (.Name x p) [] [] pos) (tM X.K C (eCall f (pure []))) :=
  let ⟨_, _, _, hm, hk, hb, G⟩ := G
  m_call0 G c hj hm hk hb hg hdb
theorem mo_call {f : List D → Res (List D)} (G : DefO X.prog X.w X.K X.mg X.base j x n f) (c : Ok X C k) (hj : j ≤ k) (ha : PAn X C (a :: es) ms n) (hg : Gl X x := by rfl) (hdb : (x == ("__debug__" : Str)) = false := by decide)
    (he : starEach (a :: es) X.env = (false, eval a X.env) :: starEach es X.env := by rfl) (hpl : (backTo pos (starEach es X.env)).any (·.1) = false := by rfl) : PE X (.Call (.Name x p) (a :: es) [] pos) (tO X.K C (eCallO f ms)) :=
  let ⟨_, _, _, hm, hk, hb, G⟩ := G
  m_callO G c hj hm hk hb ha.pa hg hdb he hpl ha.len
theorem mr_call {f : List D → List D → Res (D × List D)} (i : Nat) (G : DefR X.prog X.w X.K X.mg X.base j x n f) (c : Ok X C k) (hj : j ≤ k) (ha : PAn X C es ms n) (hN : X.N[i]? = some y := by rfl) (hv : Vis X.env.scope y := by first | exact Or.inl rfl | exact Or.inr (Or.inl rfl) | exact Or.inr (Or.inr rfl)) (hdy : (y == ("__debug__" : Str)) = false := by decide)
    (hcd : (y == ("__classdict__" : Str)) = false := by decide) (hg : Gl X x := by rfl) (hdb : (x == ("__debug__" : Str)) = false := by decide)
    (he : starEach (.Name y p2 :: es) X.env = (false, eval (.Name y p2) X.env) :: starEach es X.env := by rfl) (hpl : (backTo pos (starEach es X.env)).any (·.1) = false := by rfl) : PE X (.Call (.Name x p) (.Name y p2 :: es) [] pos) (tM X.K C (eCallR i f ms)) :=
  let ⟨_, _, _, hm, hk, hb, G⟩ := G
  m_callR i G c hj hm hk hb ha.pa hN hv hdy hcd hg hdb he hpl ha.len
/-! ### more stores -/
def sAsg (bd : D → M Unit) (m : M D) : M Fl := m >>= fun d => bd d >>= fun _ => pure .nx
theorem ms_asg {is : List Nat} {bd : D → M Unit} (h : PE X e (tM X.K C m)) (hg : PG X tg (tG X.K C is bd)) (hs : swapsWithSole [tg] e pos.line X.env = pure false := by rfl) (hw : swappedStores [tg] e X.env = pure none := by rfl)
    (h1 : (assignEach [tg] X.env).map (·.2) = [assign tg X.env] := by rfl) : PS X (.Assign [tg] e pos) (tS X.K C (sAsg bd m)) := ps_imp (ps_asg h hg hs hw h1) fun E σ H ⟨B, F, ρ, S, q⟩ => by
  refine tM.of S q.bind fun d ρ1 h1 v F1 H1 s1 S1 r1 => ?_
  exact ⟨B, F1, ρ1, d, S1, r1, h1.bind.imp fun _ ρ2 h2 σ2 ch S2 => h2 σ2 F1 H1 s1 S2⟩
def sPar (i j : Nat) (ms : M (List D)) : M Fl := ms >>= fun ds => match ds with
  | [d, e] => setV i d >>= fun _ => setV j e >>= fun _ => pure .nx
  | _ => fun _ => .bad
theorem ms_par {px py pt : Pos} {kt k2 pt2} (i j : Nat) (ni : C.rf = none ∨ i ≠ 0) (nj : C.rf = none ∨ j ≠ 0) (hc : X.calm = true) (hN : X.N.Nodup) (hij : i ≠ j) (ha : PA X [a, b] (tA X.K C ms)) (hi : X.N[i]? = some x := by rfl) (hj : X.N[j]? = some y := by rfl)
    (hx : X.env.scope.names.lookup x = some .local := by rfl) (hy : X.env.scope.names.lookup y = some .local := by rfl)
    (hw : swappedStores [.Tuple [.Name x px, .Name y py] kt pt] (.Tuple [a, b] k2 pt2) X.env = pure (some [x, y]) := by rfl)
    (hs : swapsWithSole [.Tuple [.Name x px, .Name y py] kt pt] (.Tuple [a, b] k2 pt2) pos.line X.env = pure false := by rfl) :
    PS X (.Assign [.Tuple [.Name x px, .Name y py] kt pt] (.Tuple [a, b] k2 pt2) pos) (tS X.K C (sPar i j ms)) := ps_imp (ps_par hc hN hi hj hij hx hy ha hw hs) fun E σ H ⟨B, F, ρ, S, q⟩ => by
  refine tA.of S q.bind fun ds ρ1 h1 vs F1 H1 s1 S1 r1 => ?_
  cases ds with
  | nil => exact (show False from h1).elim
  | cons d ds =>
    cases ds with
    | nil => exact (show False from h1).elim
    | cons e ds =>
      cases ds with
      | cons _ _ => exact (show False from h1).elim
      | nil =>
        obtain ⟨v, vr, rfl, rv, u, ur, rfl, ru, rfl⟩ := r1
        refine ⟨v, u, rfl, ?_⟩
        have h2 : RX C B (PF X.K C B F E) ((setV i d >>= fun _ => setV j e >>= fun _ => pure .nx) ρ1) := h1
        have h3 := h2.bind
        unfold setV at h3
        by_cases z : i < ρ1.length
        · rw [if_pos z] at h3
          have h4 := RX.bind (show RX C B (PF X.K C B F E) ((setV j e >>= fun _ => pure .nx) (ρ1.set i (.val d))) from h3)
          unfold setV at h4
          by_cases z2 : j < (ρ1.set i (.val d)).length
          · rw [if_pos z2] at h4
            exact h4 _ F1 H1 s1 ((S1.setV ni rv).setV nj ru)
          · rw [if_neg z2] at h4
            exact h4.elim
        · rw [if_neg z] at h3
          exact h3.elim
/-! ### isinstance(x, (T1, T2)) -/
def isTys (Ts : List String) (d : D) : Bool := Ts.any fun T => isTy T d
theorem kitAny_tys {Ts : List String} (h : ∀ T ∈ Ts, T ∈ ["int", "bool", "str", "tuple", "list", "dict"]) (d : D) : PySem.W.kitAny X.K (.type (tyD d)) (Ts.map Value.type) = some (isTys Ts d) := by
  induction Ts with
  | nil => exact kitAny_nil
  | cons T Ts ih =>
    refine kitAny_cons (kit_ty (kit_some (h T List.mem_cons_self) d)) (fun e => ?_) (fun e => ?_)
    · rw [ih fun T hT => h T (List.mem_cons_of_mem _ hT)]
      unfold isTys
      rw [List.any_cons, e, Bool.false_or]
    · unfold isTys
      rw [List.any_cons, e, Bool.true_or]
theorem tys_rel : ∀ Ts : List String, Paired ClsV (Ts.map V.ty) (Ts.map Value.type)
  | [] => .nil
  | T :: Ts => .cons (.ty T) (tys_rel Ts)
def gIsis (Ts : List String) (d : D) : Res D := .ok (.bool (isTys Ts d))
/-- the written tuple of types -/
structure Tys (X : Cx) (es : List Expr) (Ts : List String) : Prop where
  pa : ∀ (pos : Pos), PA X es (fun _ H Q => Q (Ts.map V.ty) H)
theorem tys_nil : Tys X [] [] := ⟨fun _ => ⟨fun pos pins s σ H Q I h => pa_nil.run pos pins s σ H Q I h⟩⟩
theorem tys_cons {T : String} {Ts : List String} (h : Tys X es Ts) (hm : X.mg x = none) (hg : Gl X x := by rfl) (hv : bootBuiltins x = some (.type T) := by decide +kernel) (hn : x ≠ "__name__" := by decide) (hdb : (x == ("__debug__" : Str)) = false := by decide)
    (hs : starEach (.Name x p :: es) X.env = (false, eval (.Name x p) X.env) :: starEach es X.env := by rfl) : Tys X (.Name x p :: es) (T :: Ts) := ⟨fun pos => pa_imp (pa_cons (pe_bltn hg hm hv (v := .ty T) rfl hn hdb) (h.pa pos) hs) fun σ H Q q => q⟩
theorem m_isis {Ts : List String} {kk : Nat} {ctx} (hT : ∀ T ∈ Ts, T ∈ ["int", "bool", "str", "tuple", "list", "dict"]) (hl : Ts.length ≤ 6) (hm : X.mg "isinstance" = none) (ha : PE X a (tL X.K C ma)) (ht : Tys X es Ts) (hg : Gl X "isinstance" := by rfl)
    (he : starEach [a, .Tuple es ctx p2] X.env = (false, eval a X.env) :: starEach [.Tuple es ctx p2] X.env := by rfl) (he2 : starEach [.Tuple es ctx p2] X.env = (false, eval (.Tuple es ctx p2) X.env) :: starEach [] X.env := by rfl) (hpl : (backTo pos (starEach [.Tuple es ctx p2] X.env)).any (·.1) = false := by rfl) :
    PE X (.Call (.Name "isinstance" p) [a, .Tuple es ctx p2] [] pos) (tM X.K C (e1 (gIsis Ts) ma)) :=
  pe_imp (pe_callB call_isiT hg hm (by decide +kernel) (pa_cons ha (pa_cons (pe_tup (ht.pa pos)) pa_nil he2) he) (by decide) (by decide) he hpl) fun σ H Q h => by
    obtain ⟨B, F, ρ, S, q⟩ := h
    refine tL.of S q.bind fun la ρ1 h1 v F1 H1 s1 S1 r1 => ?_
    obtain ⟨d, rd, h3⟩ := late_step S1 r1 h1
    refine ⟨by rw [List.length_map, sizeLine_eq]; omega, fun tp np => ?_⟩
    have S2 := S1.alloc (o := .tup (Ts.map V.ty)) np
    have rd2 : RpV X.K (upd F1 tp (.tup (Ts.map V.ty))) (upd H1 tp (.tup (Ts.map V.ty))) d v := by
      rcases rd with r | ⟨p, xs, ds, e1, e2, e3, z, r⟩
      · exact .inl (r.mono (same_upd (S1.fresh np).1))
      · exact .inr ⟨p, xs, ds, e1, e2, by rw [upd_ne (ne_of_none e3 np)]; exact e3, z, r.mono (same_upd (S1.fresh np).1)⟩
    exact ⟨v, tp, Ts.map V.ty, _, _, _, rfl, upd_same, tys_rel Ts, rpv_ty S2.fr rd2, kitAny_tys hT d, pd_bl S2 (h3.imp fun _ _ q => q.mono (s1.trans (same_upd (S1.fresh np).1))) rfl⟩
/-! ### raise -/
theorem ms_raise {W : WX} {x : Str} {Cc : Addr} {z : Str} {jj : Nat} {p3 : Pos} {bmB : List Value} {Bn newId initId : String} (hc : X.calm = true) (tk : Takes X W) (hW : ∀ σ H', C.Ex x H' → W (.ref Cc) none σ H') (F : ExcBaseFacts Bn newId initId bmB) (q : PySem.W.excIn X.K Cc bmB newId = true) (gC : X.mg x = some (.ref Cc)) (kC : PySem.W.keepIn X.K (.ref Cc) = true) (r : Raises X (.ref Cc)) (hg : Gl X x := by rfl)
    (hdb : (x == ("__debug__" : Str)) = false := by decide) : PS X (.Raise (some (.Call (.Name x p) [.Constant (.str z) jj p3] [] p2)) none pos) (tS X.K C (fun _ => .exc x)) :=
  ps_imp (ps_raise hc tk (pmk_own F q gC kC r hg hdb)) fun E σ H ⟨B, F, ρ, S, q⟩ => hW σ H (q H S.kp)
end
end VS
namespace VS
open PySem PySem.Spec PyProof.Rows L2
section
variable {X : Cx} {C : SC} {B : Bs} {a : Expr} {pos : Pos} {x : Str} {ma : M (M D)}
theorem mg_int {i : Int} (h : ∃ t, X.mg x = some (.int i t)) (hg : Gl X x := by rfl) (hdb : (x == ("__debug__" : Str)) = false := by decide) : PE X (.Name x pos) (tM X.K C (pure (.int i))) :=
  let ⟨t, h⟩ := h
  m_glb hg h (v := .int i) ⟨t, rfl⟩ (fun _ => rfl) hdb
theorem mg_str {i : Str} (h : ∃ t, X.mg x = some (.str i t)) (hg : Gl X x := by rfl) (hdb : (x == ("__debug__" : Str)) = false := by decide) : PE X (.Name x pos) (tM X.K C (pure (.str i))) :=
  let ⟨t, h⟩ := h
  m_glb hg h (v := .str i) ⟨t, rfl⟩ (fun _ => rfl) hdb
end
end VS

set_option Elab.async false
set_option linter.all false
set_option maxRecDepth 100000
set_option maxHeartbeats 4000000
namespace VS
open PySem PySem.Spec PyProof.Rows L2
/-! ### the script, handed on as the first argument -/
def spSV (K : PySem.W.Frag) (mg : Str → Option Value) (n : Nat) (f : List Int → List D → Res D) : Sp := fun vs H Q E => ∃ a ws ns es F, vs = .ref a :: ws ∧ Same F H ∧ SqL K F a (ns.map V.int) ∧ RpAll K F es ws ∧ es.length = n ∧ match f ns es with
  | .ok d => ∀ v F' H', Left F H F' H' → Rp K F' d v → Q v H'
  | _ => False
def spSO (K : PySem.W.Frag) (n : Nat) (f : List Int → List D → Res (List D)) : Sp := fun vs H Q E => ∃ a ws ns es F, vs = .ref a :: ws ∧ Same F H ∧ SqL K F a (ns.map V.int) ∧ RpAll K F es ws ∧ es.length = n ∧ match f ns es with
  | .ok es => ∀ p xs F' H', Left F H F' H' → F' p = none → H p = none → H' p = some (.lst xs) → xs.length ≤ sizeLine → RpAll K F' es xs → Q (.ref p) H'
  | _ => False
structure DefSV (P : Program) (w : World) (K : PySem.W.Frag) (mg : Str → Option Value) (base : Heap) (k : Nat) (x : Str) (n : Nat) (f : List Int → List D → Res D) : Prop where
  ex : ∃ fa fd ps, mg x = some (.ref fa) ∧ PySem.W.keepIn K (.ref fa) = true ∧ Binds K fd ps [] ∧ FnOk P w K mg base (L2.CX P w) k fa fd ps (spSV K mg n f)
structure DefSO (P : Program) (w : World) (K : PySem.W.Frag) (mg : Str → Option Value) (base : Heap) (k : Nat) (x : Str) (n : Nat) (f : List Int → List D → Res (List D)) : Prop where
  ex : ∃ fa fd ps, mg x = some (.ref fa) ∧ PySem.W.keepIn K (.ref fa) = true ∧ Binds K fd ps [] ∧ FnOk P w K mg base (L2.CX P w) k fa fd ps (spSO K n f)
section
variable {X : Cx} {C : SC} {B : Bs} {a b : Expr} {pos p p2 : Pos} {x y : Str} {k j : Nat} {mb : M (M D)} {ms : M (List D)} {es : List Expr} {n : Nat} {i : Nat}
/-- the script in the slot i -/
def scrAt (i : Nat) : M (List Int) := fun ρ => match ρ[i]? with
  | some (.scr ns) => .ok (ns, ρ)
  | _ => .bad
theorem scr_read {α : Type} {Φ : α → En → Prop} {ρ : En} {f : List Int → M α} (h : RX C B Φ ((scrAt i >>= f) ρ)) : ∃ ns, ρ[i]? = some (.scr ns) ∧ RX C B Φ (f ns ρ) := by
  have h2 := h.bind
  unfold scrAt at h2
  cases e : ρ[i]? with
  | none => rw [e] at h2; exact h2.elim
  | some s =>
    rw [e] at h2
    cases s with
    | scr ns => exact ⟨ns, rfl, h2⟩
    | _ => exact h2.elim
theorem scr_val {F H : Hp} {σ : L2.St} {ρ : En} (S : SR X.K C B F σ H ρ) {ns : List Int} (e : ρ[i]? = some (.scr ns)) : ∃ a, σ[i]? = some (some (.ref a)) ∧ SqL X.K F a (ns.map V.int) := by
  have hlt := (List.getElem?_eq_some_iff.mp e).1
  have hl := S.len
  have ev : σ[i]? = some (σ[i]'(by omega)) := by simp
  obtain ⟨a, ea, q⟩ := S.sl i _ _ e ev
  rw [ea] at ev
  exact ⟨a, ev, q⟩
def eLenS (i : Nat) : M D := scrAt i >>= fun ns => pure (.int ns.length)
theorem m_lenS (i : Nat) (hm : X.mg "len" = none) (hN : X.N[i]? = some y := by rfl) (hv : Vis X.env.scope y := by first | exact Or.inl rfl | exact Or.inr (Or.inl rfl) | exact Or.inr (Or.inr rfl)) (hd : (y == ("__debug__" : Str)) = false := by decide)
    (hcd : (y == ("__classdict__" : Str)) = false := by decide) (hg : Gl X "len" := by rfl) (he : starEach [.Name y p2] X.env = (false, eval (.Name y p2) X.env) :: starEach [] X.env := by rfl) (hpl : (backTo pos (starEach [] X.env)).any (·.1) = false := by rfl) :
    PE X (.Call (.Name "len" p) [.Name y p2] [] pos) (tM X.K C (eLenS i)) :=
  pe_imp (pe_callB call_len_seq hg hm (by decide +kernel) (pa_cons (pe_var hN hv hd hcd) pa_nil he) (by decide) (by decide) he hpl) fun σ H Q ⟨B, F, ρ, S, q⟩ => by
    obtain ⟨ns, e, q⟩ := scr_read q
    obtain ⟨a, ev, hs⟩ := scr_val S e
    refine ⟨_, ev, a, _, rfl, .inl (S.fr.seq hs), ?_⟩
    rw [List.length_map]
    exact q _ F H (Same.refl _) S rfl
def atS (ns : List Int) (k : Int) : Res D := match atI ns k with
  | some z => .ok (.int z)
  | none => .bad
def eIxS (i : Nat) (mb : M (M D)) : M D := scrAt i >>= fun ns => mb >>= fun l => l >>= fun d => M.lift (asI d) >>= fun k => M.lift (atS ns k)
theorem m_ixS (i : Nat) (hb : PE X b (tL X.K C mb)) (hN : X.N[i]? = some y := by rfl) (hv : Vis X.env.scope y := by first | exact Or.inl rfl | exact Or.inr (Or.inl rfl) | exact Or.inr (Or.inr rfl)) (hd : (y == ("__debug__" : Str)) = false := by decide)
    (hcd : (y == ("__classdict__" : Str)) = false := by decide) (hs : PlainIx b := by exact fun _ _ => rfl) : PE X (.Subscript (.Name y p2) b pos) (tM X.K C (eIxS i mb)) :=
  pe_imp (pe_ix ix_list (pe_var hN hv hd hcd) hb hs) fun σ H Q ⟨B, F, ρ, S, q⟩ => by
    obtain ⟨ns, e, q⟩ := scr_read q
    obtain ⟨a, ev, hs⟩ := scr_val S e
    refine ⟨_, ev, ?_⟩
    refine tL.of S q.bind fun l ρ1 h1 v F1 H1 s1 S1 r1 => ?_
    obtain ⟨d, rd, h2⟩ := late_step S1 r1 h1
    obtain ⟨kk, rfl, h3⟩ := asI_step h2
    cases ez : atI ns kk with
    | none => exact (RX.bad_elim (show RX C B _ (M.lift (atS ns kk) ρ1) from h3) (by unfold atS; rw [ez])).elim
    | some z =>
      refine ⟨a, _, kk, .int z, rfl, rpv_int rd, S1.fr.seq (s1.seq hs), ?_, ?_⟩
      · unfold atI at ez ⊢
        rw [List.length_map]
        cases ei : ixN ns.length kk with
        | none => rw [ei] at ez; cases ez
        | some j =>
          rw [ei] at ez
          show (List.map V.int ns)[j]? = some (.int z)
          rw [List.getElem?_map, show ns[j]? = some z from ez]
          rfl
      · have h4 : RX C B (PD X.K C B σ F Q) (M.lift (atS ns kk) ρ1) := h3
        unfold atS at h4
        rw [ez] at h4
        exact h4 _ F1 H1 s1 S1 rfl
def eCallSV (i : Nat) (f : List Int → List D → Res D) (ms : M (List D)) : M D := scrAt i >>= fun ns => ms >>= fun es => M.lift (match f ns es with | .ok d => .ok d | _ => .bad)
def eCallSO (i : Nat) (f : List Int → List D → Res (List D)) (ms : M (List D)) : M (List D) := scrAt i >>= fun ns => ms >>= fun es => M.lift (match f ns es with | .ok d => .ok d | _ => .bad)
theorem mvS_call {f : List Int → List D → Res D} (i : Nat) (G : DefSV X.prog X.w X.K X.mg X.base j x n f) (c : Ok X C k) (hj : j ≤ k) (ha : PAn X C es ms n) (hN : X.N[i]? = some y := by rfl) (hv : Vis X.env.scope y := by first | exact Or.inl rfl | exact Or.inr (Or.inl rfl) | exact Or.inr (Or.inr rfl)) (hdy : (y == ("__debug__" : Str)) = false := by decide)
    (hcd : (y == ("__classdict__" : Str)) = false := by decide) (hg : Gl X x := by rfl) (hdb : (x == ("__debug__" : Str)) = false := by decide)
    (he : starEach (.Name y p2 :: es) X.env = (false, eval (.Name y p2) X.env) :: starEach es X.env := by rfl) (hpl : (backTo pos (starEach es X.env)).any (·.1) = false := by rfl) : PE X (.Call (.Name x p) (.Name y p2 :: es) [] pos) (tM X.K C (eCallSV i f ms)) := by
  obtain ⟨_, _, _, hm, hk, hb, G⟩ := G
  refine pe_imp (pe_call G (c.room.mono hj) hg hm hk hb .nil c.pass (pa_cons (pe_var hN hv hdy hcd) ha.pa he) hdb he hpl) fun σ H Q ⟨B, F, ρ, S, q⟩ => ?_
  obtain ⟨ns, e, q⟩ := scr_read q
  obtain ⟨a, ev, hs⟩ := scr_val S e
  refine ⟨_, ev, ?_⟩
  have q1 := q.bind
  cases em : ms ρ with
  | bad => rw [em] at q1; exact q1.elim
  | exc cc =>
    refine ⟨B, F, ρ, S, ?_⟩
    rw [em] at q1 ⊢
    exact q1
  | ok pr =>
    obtain ⟨ds, ρ1⟩ := pr
    refine ⟨B, F, ρ, S, ?_⟩
    rw [em] at q1 ⊢
    exact fun vs F1 H1 s1 S1 r1 => by
      show spSV X.K X.mg n f ((.ref a :: vs) ++ []) H1 Q (EX X.mg C)
      rw [List.append_nil]
      refine ⟨a, vs, ns, ds, F1, rfl, S1.fr, s1.seq hs, r1, ha.len ρ ds ρ1 em, ?_⟩
      have q2 : RX C B (PD X.K C B σ F Q) (M.lift (match f ns ds with | .ok d => .ok d | _ => .bad) ρ1) := q1
      cases ef : f ns ds with
      | ok d => rw [ef] at q2; exact fun v F' H' l rv => q2 v F' H' (s1.trans l.1) (S1.grow l.2.2.1 l.1 l.2.1 l.2.2.2) rv
      | exc c => rw [ef] at q2; exact q2
      | bad => rw [ef] at q2; exact q2
theorem moS_call {f : List Int → List D → Res (List D)} (i : Nat) (G : DefSO X.prog X.w X.K X.mg X.base j x n f) (c : Ok X C k) (hj : j ≤ k) (ha : PAn X C es ms n) (hN : X.N[i]? = some y := by rfl) (hv : Vis X.env.scope y := by first | exact Or.inl rfl | exact Or.inr (Or.inl rfl) | exact Or.inr (Or.inr rfl)) (hdy : (y == ("__debug__" : Str)) = false := by decide)
    (hcd : (y == ("__classdict__" : Str)) = false := by decide) (hg : Gl X x := by rfl) (hdb : (x == ("__debug__" : Str)) = false := by decide)
    (he : starEach (.Name y p2 :: es) X.env = (false, eval (.Name y p2) X.env) :: starEach es X.env := by rfl) (hpl : (backTo pos (starEach es X.env)).any (·.1) = false := by rfl) : PE X (.Call (.Name x p) (.Name y p2 :: es) [] pos) (tO X.K C (eCallSO i f ms)) := by
  obtain ⟨_, _, _, hm, hk, hb, G⟩ := G
  refine pe_imp (pe_call G (c.room.mono hj) hg hm hk hb .nil c.pass (pa_cons (pe_var hN hv hdy hcd) ha.pa he) hdb he hpl) fun σ H Q ⟨B, F, ρ, S, q⟩ => ?_
  obtain ⟨ns, e, q⟩ := scr_read q
  obtain ⟨a, ev, hs⟩ := scr_val S e
  refine ⟨_, ev, ?_⟩
  have q1 := q.bind
  cases em : ms ρ with
  | bad => rw [em] at q1; exact q1.elim
  | exc cc =>
    refine ⟨B, F, ρ, S, ?_⟩
    rw [em] at q1 ⊢
    exact q1
  | ok pr =>
    obtain ⟨ds, ρ1⟩ := pr
    refine ⟨B, F, ρ, S, ?_⟩
    rw [em] at q1 ⊢
    exact fun vs F1 H1 s1 S1 r1 => by
      show spSO X.K n f ((.ref a :: vs) ++ []) H1 Q (EX X.mg C)
      rw [List.append_nil]
      refine ⟨a, vs, ns, ds, F1, rfl, S1.fr, s1.seq hs, r1, ha.len ρ ds ρ1 em, ?_⟩
      have q2 : RX C B (PO X.K C B σ F Q) (M.lift (match f ns ds with | .ok d => .ok d | _ => .bad) ρ1) := q1
      cases ef : f ns ds with
      | ok d =>
        rw [ef] at q2
        refine fun p xs F' H' l fp hp hp' z r => q2 p xs F' H' (s1.trans l.1) (S1.grow l.2.2.1 l.1 l.2.1 l.2.2.2) fp (S1.fresh hp).2 (fun i o => ?_) hp' z r
        obtain ⟨u, hu⟩ := own_there S1 o
        rw [hp] at hu; cases hu
      | exc c => rw [ef] at q2; exact q2
      | bad => rw [ef] at q2; exact q2
end
/-! ### bodies whose first argument is the script -/
def startS (n : Nat) (ns : List Int) (es : List D) : En := .scr ns :: (es.map .val ++ List.replicate (n - 1 - es.length) .emp)
def runSV (n : Nat) (m : M Fl) (ns : List Int) (es : List D) : Res D := match m (startS n ns es) with
  | .ok (.rt d, _) => .ok d
  | .ok (.nx, _) => .ok .none
  | _ => .bad
def runSO (n : Nat) (m : M Fl) (ns : List Int) (es : List D) : Res (List D) := match m (startS n ns es) with
  | .ok (.ro d, _) => .ok d
  | _ => .bad
section
variable {P : Program} {w : World} {K : PySem.W.Frag} {mg : Str → Option Value} {base : Heap} {x : Str} {st : Stmt} {fa : Addr} {fd : FuncData} {N ps : List Str} {k n : Nat}
theorem startS_at {vs : List V} {ns : List Int} {es : List D} {N : List Str} {p : Addr} (h : es.length = vs.length) {i : Nat} {s : Sl} {v : Option V} (e1 : (startS N.length ns es)[i]? = some s) (e2 : (start N (.ref p :: vs))[i]? = some v) : (i = 0 ∧ s = .scr ns ∧ v = some (.ref p)) ∨ (s = .emp) ∨ ∃ d x, es[i - 1]? = some d ∧ vs[i - 1]? = some x ∧ s = .val d ∧ v = some x := by
  cases i with
  | zero =>
    unfold startS at e1
    unfold L2.start at e2
    simp at e1 e2
    exact .inl ⟨rfl, e1.symm, e2.symm⟩
  | succ i =>
    right
    unfold startS at e1
    unfold L2.start at e2
    simp only [List.getElem?_cons_succ, List.map_cons, List.cons_append, Nat.add_sub_cancel] at e1 e2 ⊢
    by_cases hi : i < es.length
    · rw [List.getElem?_append_left (by simpa using hi), List.getElem?_map] at e1
      rw [List.getElem?_append_left (by simp; omega), List.getElem?_map] at e2
      obtain ⟨d, ed⟩ : ∃ d, es[i]? = some d := ⟨es[i], by simp [hi]⟩
      obtain ⟨y, ey⟩ : ∃ d, vs[i]? = some d := ⟨vs[i]'(by omega), by simp⟩
      rw [ed] at e1
      rw [ey] at e2
      cases e1
      cases e2
      exact .inr ⟨d, y, ed, ey, rfl, rfl⟩
    · rw [List.getElem?_append_right (by simpa using hi), List.getElem?_replicate] at e1
      split at e1
      · exact .inl (Option.some.inj e1).symm
      · cases e1
theorem sr_startS {E : XK} {F0 H : Hp} {vs : List V} {ns : List Int} {es : List D} {p : Addr} (S : FnScope N ps (defScope st)) (hps : ps.length = n + 1) (sf : Same F0 H) (hq : SqL K F0 p (ns.map V.int)) (r : RpAll K F0 es vs) (hn : es.length = n) : SR K (bodyC none mg E) ⟨H, F0⟩ F0 (start N (.ref p :: vs)) H (startS N.length ns es) := by
  have hl := r.len
  have hN : n + 1 ≤ N.length := by
    have := congrArg List.length S.pre
    rw [List.length_take] at this
    omega
  refine ⟨sf, fun a u _ _ f => f, fun a o e _ => e, ?_, fun i s v e1 e2 => ?_, fun i j q h1 h2 => ?_, fun q z => nomatch z⟩
  · unfold L2.start startS
    simp
    omega
  · rcases startS_at hl e1 e2 with ⟨rfl, rfl, rfl⟩ | rfl | ⟨d, y, e3, e4, rfl, rfl⟩
    · exact ⟨p, rfl, hq⟩
    · trivial
    · obtain ⟨y', e5, ry⟩ := r.get' e3
      rw [e4] at e5; cases e5
      exact ⟨y, rfl, ry⟩
  · obtain ⟨s1, e1, o1, e2⟩ := h1
    rcases startS_at hl e1 e2 with ⟨_, rs, _⟩ | rs | ⟨d, y, e3, e4, rs, _⟩
    · rw [rs] at o1; cases o1
    · rw [rs] at o1; cases o1
    · rw [rs] at o1; cases o1
theorem left_of {E : XK} {F0 H F' H' : Hp} {σ' : L2.St} {ρ' : En} (s : Same F0 F') (S : SR K (bodyC none mg E) ⟨H, F0⟩ F' σ' H' ρ') : Left F0 H F' H' := ⟨s, S.fr, fun a o q => S.kp a o q (fun z => nomatch z), fun q u e nt n => S.nf q u e nt n⟩
theorem fn_SV {m : M Fl} (F : FnP K x st fa fd) (S : FnScope N ps (defScope st)) (hps : ps.length = n + 1)
    (hbody : ∀ (cdv : Value) (A : Around) (outer : List PySem.Env) (s : Shared) (H : Hp) (E : XK), Ok (bodyX P w K mg base N x st fa cdv A outer s H E) (bodyC none mg E) k → PSs (bodyX P w K mg base N x st fa cdv A outer s H E) (defBody st) (tS K (bodyC none mg E) m)) :
    FnOk P w K mg base (L2.CX P w) (k + 1) fa fd ps (spSV K mg n (runSV N.length m)) := by
  refine F.ok S (fun vs H Q E h => ?_) (fun cdv A outer s H vs Q E hr h => ⟨_, hbody cdv A outer s H E (body_ok S hr), ?_⟩)
  · obtain ⟨p, ws, ns, es, F0, rfl, _, _, r, hn, _⟩ := h
    have := r.len
    simp; omega
  · obtain ⟨p, ws, ns, es, F0, rfl, sf, hq, r, hn, h⟩ := h
    refine ⟨⟨H, F0⟩, F0, startS N.length ns es, sr_startS S hps sf hq r hn, ?_⟩
    unfold runSV at h
    cases e : m (startS N.length ns es) with
    | bad => rw [e] at h; exact h
    | exc c => rw [e] at h; exact h.elim
    | ok pr =>
      obtain ⟨f, ρ'⟩ := pr
      rw [e] at h
      cases f with
      | nx => exact fun σ' F' H' s S => h .non F' H' (left_of s S) rfl
      | rt d => exact fun v σ' F' H' s S rv => h v F' H' (left_of s S) rv
      | ro d => exact h.elim
      | bk => exact h.elim
      | ct => exact h.elim
theorem fn_SO {m : M Fl} (F : FnP K x st fa fd) (S : FnScope N ps (defScope st)) (hps : ps.length = n + 1)
    (hbody : ∀ (cdv : Value) (A : Around) (outer : List PySem.Env) (s : Shared) (H : Hp) (E : XK), Ok (bodyX P w K mg base N x st fa cdv A outer s H E) (bodyC none mg E) k → PSs (bodyX P w K mg base N x st fa cdv A outer s H E) (defBody st) (tS K (bodyC none mg E) m)) :
    FnOk P w K mg base (L2.CX P w) (k + 1) fa fd ps (spSO K n (runSO N.length m)) := by
  refine F.ok S (fun vs H Q E h => ?_) (fun cdv A outer s H vs Q E hr h => ⟨_, hbody cdv A outer s H E (body_ok S hr), ?_⟩)
  · obtain ⟨p, ws, ns, es, F0, rfl, _, _, r, hn, _⟩ := h
    have := r.len
    simp; omega
  · obtain ⟨p, ws, ns, es, F0, rfl, sf, hq, r, hn, h⟩ := h
    refine ⟨⟨H, F0⟩, F0, startS N.length ns es, sr_startS S hps sf hq r hn, ?_⟩
    unfold runSO at h
    cases e : m (startS N.length ns es) with
    | bad => rw [e] at h; exact h
    | exc c => rw [e] at h; exact h.elim
    | ok pr =>
      obtain ⟨f, ρ'⟩ := pr
      rw [e] at h
      cases f with
      | ro d => exact fun p xs σ' F' H' s S fp bp hp z rv => h p xs F' H' (left_of s S) fp bp hp z rv
      | nx => exact h.elim
      | rt d => exact h.elim
      | bk => exact h.elim
      | ct => exact h.elim
/-- the law's own promise -/
def spLaw : Sp := fun vs H Q _ => ∃ a, ∃ ns : List Int, vs = [.ref a] ∧ ns.length ≤ 63 ∧ SqL K H a (ns.map V.int) ∧ ∀ H', Q (.bl true) H'
theorem law_ok {f : List Int → List D → Res D} (G : FnOk P w K mg base (L2.CX P w) k fa fd ps (spSV K mg 0 f)) (h : ∀ ns : List Int, ns.length ≤ 63 → f ns [] = .ok (.bool true)) : FnOk P w K mg base CX0 k fa fd ps (spLaw (K := K)) := by
  have key : ∀ vs H Q (E : XK), spLaw (K := K) vs H Q E → spSV K mg 0 f vs H Q E0 := fun vs H Q E ⟨a, ns, ev, hl, hs, q⟩ => by
    refine ⟨a, [], ns, [], H, ev, Same.refl _, hs, rfl, rfl, ?_⟩
    rw [h ns hl]
    exact fun v F' H' l rv => by
      have rv' : v = .bl true := rv
      rw [rv']
      exact q H'
  refine ⟨fun vs H Q E q => G.len vs H Q E0 (key vs H Q E q), fun A outer s H args us vs Q E hr e0 hb hv q => ?_⟩
  refine codeAny_mono (G.run A outer s H args us vs Q E0 hr e0 hb hv (key vs H Q E q)) fun r s' hq => ?_
  cases r with
  | ok fl => cases fl <;> exact hq
  | error e =>
    obtain ⟨_, _, _, _, _, _, _, _, _, _, _, _, z⟩ := hq
    exact z.elim
end
end VS

set_option Elab.async false
set_option linter.all false
set_option maxRecDepth 100000
set_option maxHeartbeats 4000000
namespace VS
open PySem PySem.Spec PyProof.Rows L2
/-! ### sorted of pairs of whole numbers -/
abbrev leP (p q : Int × Int) : Bool := !SrtO.lexB q p
def sortP (ps : List (Int × Int)) : List (Int × Int) := ps.mergeSort leP
theorem leP_iff {p q : Int × Int} : leP p q = true ↔ p.1 < q.1 ∨ (p.1 = q.1 ∧ p.2 ≤ q.2) := by
  unfold leP
  rw [Bool.not_eq_true', SrtO.lexB_no]
  omega
theorem sortP_perm (ps : List (Int × Int)) : (sortP ps).Perm ps := List.mergeSort_perm _ _
theorem sortP_sorted (ps : List (Int × Int)) : (sortP ps).Pairwise fun p q => leP p q = true :=
  List.pairwise_mergeSort (le := leP) (fun a b c h1 h2 => by rw [leP_iff] at *; omega) (fun a b => by rw [Bool.or_eq_true, leP_iff, leP_iff]; omega) ps
theorem sortedP_unique : ∀ {xs ys : List (Int × Int)}, xs.Perm ys → xs.Pairwise (fun p q => leP p q = true) → ys.Pairwise (fun p q => leP p q = true) → xs = ys
  | [], ys, h, _, _ => by rw [List.nil_perm.mp h]
  | x :: xs, [], h, _, _ => by exact absurd h.symm (by simp)
  | x :: xs, y :: ys, h, h1, h2 => by
    have a1 := List.pairwise_cons.mp h1
    have a2 := List.pairwise_cons.mp h2
    have mx : x ∈ y :: ys := h.mem_iff.mp List.mem_cons_self
    have my : y ∈ x :: xs := h.mem_iff.mpr List.mem_cons_self
    have e : x = y := by
      rcases List.mem_cons.mp mx with e | e
      · exact e
      · rcases List.mem_cons.mp my with e' | e'
        · exact e'.symm
        · have q1 := leP_iff.mp (a1.1 _ e')
          have q2 := leP_iff.mp (a2.1 _ e)
          refine Prod.ext ?_ ?_ <;> omega
    subst e
    rw [sortedP_unique (List.Perm.cons_inv h) a1.2 a2.2]
def pairD (p : Int × Int) : D := .tuple [.int p.1, .int p.2]
def pairsOf : List D → Option (List (Int × Int))
  | [] => some []
  | .tuple [.int a, .int b] :: r => match pairsOf r with
    | some ps => some ((a, b) :: ps)
    | none => none
  | _ :: _ => none
theorem pairsOf_eq : ∀ {ds : List D} {ps : List (Int × Int)}, pairsOf ds = some ps → ds = ps.map pairD
  | [], ps, h => by cases h; rfl
  | d :: r, ps, h => by
    unfold pairsOf at h
    split at h
    · rename_i h'; cases h'
    · rename_i a b r' h'
      cases h'
      cases e : pairsOf r with
      | none => rw [e] at h; cases h
      | some qs =>
        rw [e] at h
        cases h
        rw [pairsOf_eq e]
        rfl
    · cases h
theorem pairsOf_map : ∀ ps : List (Int × Int), pairsOf (ps.map pairD) = some ps
  | [] => rfl
  | p :: ps => by
    show (match pairsOf (ps.map pairD) with | some qs => some ((p.1, p.2) :: qs) | none => none) = _
    rw [pairsOf_map ps]
def gSorted : D → Res (List D)
  | .list ds => match intsOf ds with
    | some ns => .ok ((sortI ns).map .int)
    | none => match pairsOf ds with
      | some ps => .ok ((sortP ps).map pairD)
      | none => .bad
  | _ => .bad
section
variable {X : Cx} {C : SC}
def rSortedX (K : PySem.W.Frag) : List V → Hp → VK → Prop := fun vs H Q => rSortedI K vs H Q ∨ rSortedPO K vs H Q
theorem cr_sortedX : CallR X (.builtin "sorted") (rSortedX X.K) := fun pins s σ H vs us Q I r h => by
  rcases h with h | h
  · exact cr_sortedI pins s σ H vs us Q I r h
  · exact cr_sortedPO pins s σ H vs us Q I r h
def kOf (F : Hp) (v : V) : Int × Int := match v with
  | .ref t => match F t with
    | some (.tup [.int a, .int b]) => (a, b)
    | _ => (0, 0)
  | _ => (0, 0)
theorem pair_at {K : PySem.W.Frag} {F H : Hp} {p : Int × Int} {v : V} (s : Same F H) (r : Rp K F (pairD p) v) : kOf F v = p ∧ ∃ t, v = .ref t ∧ H t = some (.tup [.int (kOf F v).1, .int (kOf F v).2]) := by
  obtain ⟨t, xs, rfl, ft, _, y, ys, rfl, ry, z, zs, rfl, rz, e⟩ := r
  cases e
  cases (show y = .int p.1 from ry)
  cases (show z = .int p.2 from rz)
  have e : kOf F (.ref t) = p := by
    unfold kOf
    simp only [ft]
  refine ⟨e, t, rfl, ?_⟩
  rw [e]
  exact s _ _ ft
theorem pairs_at {K : PySem.W.Frag} {F H : Hp} (s : Same F H) : ∀ {ps : List (Int × Int)} {vs : List V}, RpAll K F (ps.map pairD) vs → vs.map (kOf F) = ps ∧ ∀ x ∈ vs, ∃ t, x = .ref t ∧ H t = some (.tup [.int (kOf F x).1, .int (kOf F x).2])
  | [], vs, h => by cases h; exact ⟨rfl, fun _ m => nomatch m⟩
  | p :: ps, vs, ⟨y, ys, e, r, q⟩ => by
    subst e
    obtain ⟨a, b⟩ := pairs_at s q
    obtain ⟨c, d⟩ := pair_at s r
    refine ⟨by rw [List.map_cons, a, c], fun x m => ?_⟩
    rcases List.mem_cons.mp m with rfl | m
    · exact d
    · exact b x m
theorem pairs_back {K : PySem.W.Frag} {F : Hp} : ∀ {vs : List V}, (∀ v ∈ vs, Rp K F (pairD (kOf F v)) v) → RpAll K F ((vs.map (kOf F)).map pairD) vs
  | [], _ => rfl
  | v :: vs, h => ⟨v, vs, rfl, h v List.mem_cons_self, pairs_back fun u m => h u (List.mem_cons_of_mem _ m)⟩
theorem rp_mem {K : PySem.W.Frag} {F : Hp} : ∀ {ds : List D} {vs : List V}, RpAll K F ds vs → ∀ v ∈ vs, ∃ d ∈ ds, Rp K F d v
  | [], vs, h, v, m => by cases h; cases m
  | d :: ds, vs, ⟨y, ys, e, r, q⟩, v, m => by
    subst e
    rcases List.mem_cons.mp m with rfl | m
    · exact ⟨d, List.mem_cons_self, r⟩
    · obtain ⟨d', m', r'⟩ := rp_mem q v m
      exact ⟨d', List.mem_cons_of_mem _ m', r'⟩
theorem f_sorted : Call1O X C (.builtin "sorted") gSorted := ⟨_, cr_sortedX, fun B F σ H ρ x d Q S rx h => by
  cases d <;> try exact (RX.bad_elim h rfl).elim
  rename_i ds
  obtain ⟨p, xs, rfl, fp, zx, r1⟩ := rpv_lst S.fr rx
  cases e : intsOf ds with
  | some ns =>
    have z := intsOf_eq e
    subst z
    have y := r1.ints
    subst y
    refine .inl ⟨p, ns, rfl, .inl fp, fun ns' q pm sd nq => ?_⟩
    rw [sorted_unique (pm.trans (sortI_perm ns).symm) sd (sortI_sorted ns)]
    refine po_new S h (by simp only [gSorted, e]) nq ?_ (RpAll.of_ints _)
    rw [List.length_map] at zx ⊢
    rw [(sortI_perm ns).length_eq]
    exact zx
  | none =>
    cases e2 : pairsOf ds with
    | none => exact (RX.bad_elim h (by simp only [gSorted, e, e2])).elim
    | some ps =>
      have z := pairsOf_eq e2
      subst z
      obtain ⟨a, b⟩ := pairs_at S.fr r1
      refine .inr ⟨p, xs, kOf F, rfl, .inl fp, b, fun ys q sd sb nq => ?_⟩
      have key : ys.map (kOf F) = sortP ps := by
        refine sortedP_unique ?_ ?_ (sortP_sorted ps)
        · exact ((sb.perm.map (kOf F)).trans (by rw [a])).trans (sortP_perm ps).symm
        · rw [List.pairwise_map]
          refine List.Pairwise.imp (fun {x y} q => ?_) sd
          have q' : SrtO.lexB (kOf F y) (kOf F x) = false := q
          show (!SrtO.lexB (kOf F y) (kOf F x)) = true
          rw [q']; rfl
      have back : RpAll X.K F ((sortP ps).map pairD) ys := by
        rw [← key]
        refine pairs_back fun v m => ?_
        obtain ⟨d, md, rd⟩ := rp_mem r1 v (sb.perm.mem_iff.mp m)
        obtain ⟨p', _, rfl⟩ := List.mem_map.mp md
        rw [(pair_at S.fr rd).1]
        exact rd
      refine po_new S h (by simp only [gSorted, e, e2]) nq ?_ back
      rw [sb.perm.length_eq]
      exact zx⟩
end
end VS

set_option Elab.async false
set_option linter.all false
set_option maxRecDepth 100000
set_option maxHeartbeats 4000000
namespace VS
open PySem PySem.Spec PyProof.Rows L2
/-! ### reading of values, as equations -/
section
variable {α β : Type}
theorem bnd (m : M α) (f : α → M β) (ρ : En) : (m >>= f) ρ = (m ρ).bind fun p => f p.1 p.2 := id rfl
theorem pur (a : α) (ρ : En) : (pure a : M α) ρ = .ok (a, ρ) := id rfl
theorem rb_ok (a : α) (f : α → Res β) : (Res.ok a).bind f = f a := id rfl
theorem rb_exc (c : Str) (f : α → Res β) : (Res.exc c : Res α).bind f = .exc c := id rfl
theorem rb_bad (f : α → Res β) : (Res.bad : Res α).bind f = .bad := id rfl
theorem lft (r : Res α) (ρ : En) : M.lift r ρ = r.bind fun a => .ok (a, ρ) := id rfl
theorem rb_congr {r r' : Res α} {f : α → Res β} (h : r = r') : r.bind f = r'.bind f := by rw [h]
/-- a choice that is looked into only when it is decided -/
def bIf (c : Bool) (a b : Res α) : Res α := if c = true then a else b
theorem bIf_t (a b : Res α) : bIf true a b = a := id rfl
theorem bIf_f (a b : Res α) : bIf false a b = b := id rfl
theorem bIf_congr {c c' : Bool} {a b : Res α} (h : c = c') : bIf c a b = bIf c' a b := by rw [h]
def pIf (p : Prop) [Decidable p] (a : Res α) : Res α := if p then a else .bad
theorem pIf_t {p : Prop} [Decidable p] {a : Res α} (h : p) : pIf p a = a := if_pos h
end
section
variable {α : Type} (ρ : En)
theorem a_int (d : D) : (pure d : M D) ρ = .ok (d, ρ) := id rfl
theorem a_vl (m : M D) : eVl m ρ = (m ρ).bind fun p => .ok (pure p.1, p.2) := id rfl
theorem a_e1 (g : D → Res α) (ma : M (M D)) : e1 g ma ρ = (ma ρ).bind fun p => (p.1 p.2).bind fun q => (g q.1).bind fun a => .ok (a, q.2) := id rfl
theorem a_e2 (g : D → D → Res α) (ma mb : M (M D)) : e2 g ma mb ρ = (ma ρ).bind fun p => (mb p.2).bind fun q => (p.1 q.2).bind fun r => (q.1 r.2).bind fun s => (g r.1 s.1).bind fun a => .ok (a, s.2) := id rfl
theorem a_L (m : M (List D)) : eL m ρ = (m ρ).bind fun p => .ok (.list p.1, p.2) := id rfl
theorem a_nil : (pure [] : M (List D)) ρ = .ok ([], ρ) := id rfl
theorem a_cons (m : M D) (ms : M (List D)) : eCons m ms ρ = (m ρ).bind fun p => (ms p.2).bind fun q => .ok (p.1 :: q.1, q.2) := id rfl
theorem a_tup (m : M (List D)) : eTup m ρ = (m ρ).bind fun p => (few p.1).bind fun d => .ok (.tuple d, p.2) := by
  show ((m ρ).bind fun p => ((few p.1).bind fun a => Res.ok (a, p.2)).bind fun q => Res.ok (PyData.tuple q.1, q.2)) = _
  congr 1; funext p
  cases few p.1 <;> rfl
theorem a_lst (m : M (List D)) : eLst m ρ = (m ρ).bind fun p => (few p.1).bind fun d => .ok (d, p.2) := id rfl
theorem few_ok {ds : List D} (h : ds.length ≤ 64) : few ds = .ok ds := if_pos (Nat.le_trans h (by rw [sizeLine_eq]; decide))
theorem a_B (m : M D) : eB m ρ = (m ρ).bind fun p => (asB p.1).bind fun b => .ok (b, p.2) := id rfl
theorem asB_b (b : Bool) : asB (.bool b) = .ok b := id rfl
theorem a_and (a b : M Bool) : eAnd a b ρ = (a ρ).bind fun p => bIf p.1 (b p.2) (.ok (false, p.2)) := by
  show ((a ρ).bind fun p => (if p.1 = true then b else pure false) p.2) = _
  congr 1; funext p; unfold bIf; split <;> rfl
theorem a_or (a b : M Bool) : eOr a b ρ = (a ρ).bind fun p => bIf p.1 (.ok (true, p.2)) (b p.2) := by
  show ((a ρ).bind fun p => (if p.1 = true then pure true else b) p.2) = _
  congr 1; funext p; unfold bIf; split <;> rfl
theorem a_not (a : M Bool) : eNot a ρ = (a ρ).bind fun p => .ok (!p.1, p.2) := id rfl
theorem a_notV (a : M D) : eNotV a ρ = (eB a ρ).bind fun p => .ok (.bool (!p.1), p.2) := id rfl
theorem a_andV (a b : M D) : eAndV a b ρ = (eB a ρ).bind fun p => bIf p.1 (b p.2) (.ok (.bool false, p.2)) := by
  show ((eB a ρ).bind fun p => (if p.1 = true then b else pure (.bool false)) p.2) = _
  congr 1; funext p; unfold bIf; split <;> rfl
theorem a_orV (a b : M D) : eOrV a b ρ = (eB a ρ).bind fun p => bIf p.1 (.ok (.bool true, p.2)) (b p.2) := by
  show ((eB a ρ).bind fun p => (if p.1 = true then pure (.bool true) else b) p.2) = _
  congr 1; funext p; unfold bIf; split <;> rfl
theorem a_if (t : M Bool) (a b : M D) : eIf t a b ρ = (t ρ).bind fun p => bIf p.1 (a p.2) (b p.2) := by
  show ((t ρ).bind fun p => (if p.1 = true then a else b) p.2) = _
  congr 1; funext p; unfold bIf; split <;> rfl
theorem a_rg1 (ma : M (M D)) : eRg1 ma ρ = (ma ρ).bind fun p => (p.1 p.2).bind fun q => (asI q.1).bind fun n => .ok ((0, n), q.2) := by
  show ((ma ρ).bind fun p => (p.1 p.2).bind fun q => ((asI q.1).bind fun a => Res.ok (a, q.2)).bind fun r => .ok ((0, r.1), r.2)) = _
  congr 1; funext p; congr 1; funext q
  cases asI q.1 <;> rfl
theorem a_rg2 (ma mb : M (M D)) : eRg2 ma mb ρ = (ma ρ).bind fun p => (mb p.2).bind fun q => (p.1 q.2).bind fun r => (q.1 r.2).bind fun s => (asI r.1).bind fun n => (asI s.1).bind fun k => .ok ((n, k), s.2) := by
  show ((ma ρ).bind fun p => (mb p.2).bind fun q => (p.1 q.2).bind fun r => (q.1 r.2).bind fun s => ((asI r.1).bind fun a => Res.ok (a, s.2)).bind fun t => ((asI s.1).bind fun a => Res.ok (a, t.2)).bind fun u => .ok ((t.1, u.1), u.2)) = _
  congr 1; funext p; congr 1; funext q; congr 1; funext r; congr 1; funext s
  cases asI r.1 <;> try rfl
  cases asI s.1 <;> rfl
theorem asI_i (i : Int) : asI (.int i) = .ok i := id rfl
theorem asS_l (ds : List D) : asS (.list ds) = .ok ds := id rfl
theorem asS_t (ds : List D) : asS (.tuple ds) = .ok ds := id rfl
theorem a_call (f : List D → Res D) (ms : M (List D)) : eCall f ms ρ = (ms ρ).bind fun p => (f p.1).bind fun a => .ok (a, p.2) := id rfl
theorem a_callO (f : List D → Res (List D)) (ms : M (List D)) : eCallO f ms ρ = (ms ρ).bind fun p => (match f p.1 with | .ok es => Res.ok es | _ => .bad).bind fun a => .ok (a, p.2) := id rfl
theorem a_callSO (i : Nat) (f : List Int → List D → Res (List D)) (ms : M (List D)) : eCallSO i f ms ρ = (scrAt i ρ).bind fun n => (ms n.2).bind fun p => (match f n.1 p.1 with | .ok es => Res.ok es | _ => .bad).bind fun a => .ok (a, p.2) := id rfl
theorem a_callSV (i : Nat) (f : List Int → List D → Res D) (ms : M (List D)) : eCallSV i f ms ρ = (scrAt i ρ).bind fun n => (ms n.2).bind fun p => (match f n.1 p.1 with | .ok es => Res.ok es | _ => .bad).bind fun a => .ok (a, p.2) := id rfl
theorem a_lenS (i : Nat) : eLenS i ρ = (scrAt i ρ).bind fun n => .ok (.int n.1.length, n.2) := id rfl
theorem a_ixS (i : Nat) (mb : M (M D)) : eIxS i mb ρ = (scrAt i ρ).bind fun n => (mb n.2).bind fun p => (p.1 p.2).bind fun q => (asI q.1).bind fun k => (atS n.1 k).bind fun a => .ok (a, q.2) := by
  show ((scrAt i ρ).bind fun n => (mb n.2).bind fun p => (p.1 p.2).bind fun q => ((asI q.1).bind fun a => Res.ok (a, q.2)).bind fun r => (atS n.1 r.1).bind fun a => .ok (a, r.2)) = _
  congr 1; funext n; congr 1; funext p; congr 1; funext q
  cases asI q.1 <;> rfl
theorem a_callR (i : Nat) (f : List D → List D → Res (D × List D)) (ms : M (List D)) : eCallR i f ms ρ = (isO i ρ).bind fun p => (ms p.2).bind fun q => callO i f q.1 q.2 := id rfl
theorem a_popAt (i : Nat) (m : M D) : ePopAt i m ρ = (isO i ρ).bind fun p => (m p.2).bind fun q => popAtO i q.1 q.2 := id rfl
theorem a_lift {β : Type} (m : M α) (g : α → Res β) : (m >>= fun d => M.lift (g d)) ρ = (m ρ).bind fun p => (g p.1).bind fun a => .ok (a, p.2) := id rfl
theorem a_lift2 {β γ : Type} (m : M α) (m2 : M β) (g : α → β → Res γ) : (m >>= fun d => m2 >>= fun e => M.lift (g d e)) ρ = (m ρ).bind fun p => (m2 p.2).bind fun q => (g p.1 q.1).bind fun a => .ok (a, q.2) := id rfl
/-! ### statements -/
def sqK (b : M Fl) : Fl → M Fl
  | .nx => b
  | .rt d => pure (.rt d)
  | .ro d => pure (.ro d)
  | .bk => pure .bk
  | .ct => pure .ct
theorem a_seq (a b : M Fl) : sSeq a b ρ = (a ρ).bind fun p => sqK b p.1 p.2 := by
  show ((a ρ).bind fun p => (match p.1 with | .nx => b | .rt d => pure (.rt d) | .ro d => pure (.ro d) | .bk => pure .bk | .ct => pure .ct : M Fl) p.2) = _
  congr 1
theorem sq_nx (b : M Fl) : sqK b .nx ρ = b ρ := id rfl
theorem sq_rt (b : M Fl) (d : D) : sqK b (.rt d) ρ = .ok (.rt d, ρ) := id rfl
theorem sq_ro (b : M Fl) (d : List D) : sqK b (.ro d) ρ = .ok (.ro d, ρ) := id rfl
theorem sq_bk (b : M Fl) : sqK b .bk ρ = .ok (.bk, ρ) := id rfl
theorem sq_ct (b : M Fl) : sqK b .ct ρ = .ok (.ct, ρ) := id rfl
theorem a_fl (f : Fl) : (pure f : M Fl) ρ = .ok (f, ρ) := id rfl
theorem a_sif (t : M Bool) (a b : M Fl) : sIf t a b ρ = (t ρ).bind fun p => bIf p.1 (a p.2) (b p.2) := by
  show ((t ρ).bind fun p => (if p.1 = true then a else b) p.2) = _
  congr 1; funext p; unfold bIf; split <;> rfl
theorem a_ret (m : M D) : sRet m ρ = (m ρ).bind fun p => .ok (.rt p.1, p.2) := id rfl
theorem a_retO (m : M (List D)) : sRetO m ρ = (m ρ).bind fun p => .ok (.ro p.1, p.2) := id rfl
theorem a_do (m : M D) : sDo m ρ = (m ρ).bind fun p => .ok (.nx, p.2) := id rfl
theorem a_set (i : Nat) (m : M D) : sSet i m ρ = (m ρ).bind fun p => (setV i p.1 p.2).bind fun q => .ok (.nx, q.2) := id rfl
theorem a_setO (i : Nat) (m : M (List D)) : sSetO i m ρ = (m ρ).bind fun p => (setO i p.1 p.2).bind fun q => .ok (.nx, q.2) := id rfl
theorem a_app (i : Nat) (m : M D) : sApp' i m ρ = (isO i ρ).bind fun o => (m o.2).bind fun p => (appO i p.1 p.2).bind fun q => .ok (.nx, q.2) := id rfl
theorem a_setIx (i : Nat) (mk : M (M D)) (m : M D) : sSetIx i mk m ρ = (m ρ).bind fun p => (isO i p.2).bind fun o => (mk o.2).bind fun k => (k.1 k.2).bind fun q => (setIxO i q.1 p.1 q.2).bind fun r => .ok (.nx, r.2) := id rfl
theorem a_for (mi : M (List D)) (bd : D → M Unit) (body : M Fl) : sFor mi bd body ρ = (mi ρ).bind fun p => forGo bd body p.1 p.2 := id rfl
def parK (i j : Nat) : List D → M Fl
  | [d, e] => setV i d >>= fun _ => setV j e >>= fun _ => pure .nx
  | _ => fun _ => .bad
theorem a_par (i j : Nat) (ms : M (List D)) : sPar i j ms ρ = (ms ρ).bind fun p => parK i j p.1 p.2 := by
  show ((ms ρ).bind fun p => (match p.1 with | [d, e] => setV i d >>= fun _ => setV j e >>= fun _ => pure .nx | _ => fun _ => .bad : M Fl) p.2) = _
  congr 1
theorem par_ok (i j : Nat) (d e : D) : parK i j [d, e] ρ = (setV i d ρ).bind fun p => (setV j e p.2).bind fun q => .ok (.nx, q.2) := id rfl
def bK : Res (Fl × En) → Res D
  | .ok (.rt d, _) => .ok d
  | .ok (.nx, _) => .ok .none
  | .exc c => .exc c
  | _ => .bad
theorem a_runB (n : Nat) (m : M Fl) (ds : List D) : runB n m ds = bK (m (startE n ds)) := by
  unfold runB bK; rfl
def rK : Res (Fl × En) → Res (D × List D)
  | .ok (.rt d, .own ds' :: _) => .ok (d, ds')
  | .ok (.nx, .own ds' :: _) => .ok (.none, ds')
  | _ => .bad
theorem a_runR (n : Nat) (m : M Fl) (ds es : List D) {d : D} {ds' : List D} {ρ' : En} (h : m (startR n ds es) = .ok (.rt d, .own ds' :: ρ')) : runR n m ds es = .ok (d, ds') := by
  unfold runR
  rw [h]
  rfl
theorem a_runSV (n : Nat) (m : M Fl) (ns : List Int) (ds : List D) {d : D} {ρ' : En} (h : m (startS n ns ds) = .ok (.rt d, ρ')) : runSV n m ns ds = .ok d := by
  unfold runSV
  rw [h]
theorem a_runSO (n : Nat) (m : M Fl) (ns : List Int) (ds ds' : List D) {ρ' : En} (h : m (startS n ns ds) = .ok (.ro ds', ρ')) : runSO n m ns ds = .ok ds' := by
  unfold runSO
  rw [h]
theorem a_runBr (n : Nat) (m : M Fl) (ds : List D) {d : D} {ρ' : En} (h : m (startE n ds) = .ok (.rt d, ρ')) : runB n m ds = .ok d := by
  unfold runB
  rw [h]
/-! ### values -/
theorem i_sub (i j : Int) : dSub (.int i) (.int j) = .ok (.int (i - j)) := id rfl
theorem i_add (i j : Int) : dAddL (.int i) (.int j) = .ok (.int (i + j)) := id rfl
theorem i_mul {i j : Int} (h : CMul i j) : dMul (.int i) (.int j) = .ok (.int (i * j)) := if_pos h
theorem i_mod {i j : Int} (h : j ≠ 0) : dMod (.int i) (.int j) = .ok (.int (i.fmod j)) := if_pos h
theorem i_div {i j : Int} (h : CDivN i j) : dDiv (.int i) (.int j) = .ok (.int (i.fdiv j)) := if_pos h
theorem i_pow {i j : Int} (h : CPow i j) : dPow (.int i) (.int j) = .ok (.int (i ^ j.toNat)) := if_pos h
theorem i_neg (i : Int) : dNeg (.int i) = .ok (.int (-i)) := id rfl
theorem i_abs (i : Int) : gAbs (.int i) = .ok (.int (if i < 0 then -i else i)) := id rfl
theorem i_intB (b : Bool) : gInt (.bool b) = .ok (.int (if b then 1 else 0)) := id rfl
theorem i_gt (i j : Int) : dGt (.int i) (.int j) = .ok (.bool (decide (j < i))) := id rfl
theorem i_ge (i j : Int) : dGe (.int i) (.int j) = .ok (.bool (decide (j ≤ i))) := id rfl
theorem i_lt (i j : Int) : dLt (.int i) (.int j) = .ok (.bool (decide (i < j))) := id rfl
theorem i_le (i j : Int) : dLe (.int i) (.int j) = .ok (.bool (decide (i ≤ j))) := id rfl
theorem i_eq (i j : Int) : dEq (.int i) (.int j) = .ok (.bool (decide (i = j))) := by
  have e : (SeqAt.shaped (.int i) && SeqAt.shaped (.int j)) = true := id rfl
  unfold dEq; rw [if_pos e]
  have : PyData.eqv (.int i) (.int j) = decide (i = j) := by first | rfl | (unfold PyData.eqv; rfl) | simp [PyData.eqv]
  rw [this]
theorem i_ne (i j : Int) : dNe (.int i) (.int j) = .ok (.bool (!decide (i = j))) := by
  have e : (SeqAt.shaped (.int i) && SeqAt.shaped (.int j)) = true := id rfl
  unfold dNe; rw [if_pos e]
  have : PyData.eqv (.int i) (.int j) = decide (i = j) := by first | rfl | (unfold PyData.eqv; rfl) | simp [PyData.eqv]
  rw [this]
theorem len_l (ds : List D) : gLen (.list ds) = .ok (.int ds.length) := id rfl
theorem len_t (ds : List D) : gLen (.tuple ds) = .ok (.int ds.length) := id rfl
theorem ix_l {ds : List D} {i : Int} {d : D} (h : atI ds i = some d) : dIx (.list ds) (.int i) = .ok d := by
  show (match atI ds i with | some d => Res.ok d | none => .bad) = _
  rw [h]
theorem ix_t {ds : List D} {i : Int} {d : D} (h : atI ds i = some d) : dIx (.tuple ds) (.int i) = .ok d := by
  show (match atI ds i with | some d => Res.ok d | none => .bad) = _
  rw [h]
theorem tup_l (ds : List D) : gTup (.list ds) = .ok (.tuple ds) := id rfl
theorem i_max (i j : Int) : gMax (.int i) (.int j) = .ok (.int (if j > i then j else i)) := id rfl
theorem i_min (i j : Int) : gMin (.int i) (.int j) = .ok (.int (if j < i then j else i)) := id rfl
theorem isi_ok (T : String) (d : D) : gIsi T d = .ok (.bool (isTy T d)) := id rfl
theorem isis_ok (T : List String) (d : D) : gIsis T d = .ok (.bool (isTys T d)) := id rfl
theorem sv_nil (ρ : En) : setVs [] [] ρ = .ok ((), ρ) := id rfl
theorem sv_cons (i : Nat) (is : List Nat) (d : D) (ds : List D) (ρ : En) : setVs (i :: is) (d :: ds) ρ = (setV i d ρ).bind fun p => setVs is ds p.2 := id rfl
theorem bd_t (is : List Nat) (ds : List D) : bdT is (.tuple ds) = setVs is ds := id rfl
theorem callO_at {i : Nat} {f : List D → List D → Res (D × List D)} {es ds ds' : List D} {d : D} {ρ : En} (h : ρ[i]? = some (.own ds)) (hf : f ds es = .ok (d, ds')) : callO i f es ρ = .ok (d, ρ.set i (.own ds')) := by
  unfold callO
  rw [h]
  simp only [hf]
end
/-! ### loops -/
theorem forGo_nil {bd : D → M Unit} {body : M Fl} (ρ : En) : forGo bd body [] ρ = .ok (.nx, ρ) := id rfl
theorem forGo_nx {bd : D → M Unit} {body : M Fl} {d : D} {ds : List D} {ρ ρ1 ρ2 : En} (h1 : bd d ρ = .ok ((), ρ1)) (h2 : body ρ1 = .ok (.nx, ρ2)) : forGo bd body (d :: ds) ρ = forGo bd body ds ρ2 := by
  show ((bd d >>= fun _ => body >>= fun f => _) : M Fl) ρ = _
  rw [bnd, h1, rb_ok, bnd, h2, rb_ok]
def fgK (bd : D → M Unit) (body : M Fl) (ds : List D) : Fl → M Fl
  | .nx => forGo bd body ds
  | .ct => forGo bd body ds
  | .bk => pure .nx
  | .rt d => pure (.rt d)
  | .ro d => pure (.ro d)
theorem a_forc (bd : D → M Unit) (body : M Fl) (d : D) (ds : List D) (ρ : En) : forGo bd body (d :: ds) ρ = (bd d ρ).bind fun p => (body p.2).bind fun q => fgK bd body ds q.1 q.2 := by
  show ((bd d ρ).bind fun p => (body p.2).bind fun q => (match q.1 with | .nx => forGo bd body ds | .ct => forGo bd body ds | .bk => pure .nx | .rt d => pure (.rt d) | .ro d => pure (.ro d) : M Fl) q.2) = _
  congr 1
theorem fg_nx (bd : D → M Unit) (body : M Fl) (ds : List D) (ρ : En) : fgK bd body ds .nx ρ = forGo bd body ds ρ := id rfl
theorem fg_ct (bd : D → M Unit) (body : M Fl) (ds : List D) (ρ : En) : fgK bd body ds .ct ρ = forGo bd body ds ρ := id rfl
theorem fg_bk (bd : D → M Unit) (body : M Fl) (ds : List D) (ρ : En) : fgK bd body ds .bk ρ = .ok (.nx, ρ) := id rfl
theorem fg_rt (bd : D → M Unit) (body : M Fl) (ds : List D) (d : D) (ρ : En) : fgK bd body ds (.rt d) ρ = .ok (.rt d, ρ) := id rfl
theorem fg_ro (bd : D → M Unit) (body : M Fl) (ds : List D) (d : List D) (ρ : En) : fgK bd body ds (.ro d) ρ = .ok (.ro d, ρ) := id rfl
/-- a loop that runs through, by what holds of the state -/
theorem forGo_inv {bd : D → M Unit} {body : M Fl} (I : List D → En → Prop) (step : ∀ d ds ρ, I (d :: ds) ρ → ∃ ρ1 ρ2, bd d ρ = .ok ((), ρ1) ∧ body ρ1 = .ok (.nx, ρ2) ∧ I ds ρ2) : ∀ (ds : List D) (ρ : En), I ds ρ → ∃ ρ', forGo bd body ds ρ = .ok (.nx, ρ') ∧ I [] ρ'
  | [], ρ, h => ⟨ρ, rfl, h⟩
  | d :: ds, ρ, h => by
    obtain ⟨ρ1, ρ2, e1, e2, h2⟩ := step d ds ρ h
    obtain ⟨ρ', e3, h3⟩ := forGo_inv I step ds ρ2 h2
    exact ⟨ρ', by rw [forGo_nx e1 e2, e3], h3⟩
/-- a comprehension without a test, item by item -/
theorem lcGo_map {vs : List Nat} {bd : D → M Unit} {me : M D} {ρ : En} (g : D → D) : ∀ (ds : List D), (∀ d ∈ ds, ∃ ρ1 ρ2, bd d ρ = .ok ((), ρ1) ∧ me ρ1 = .ok (g d, ρ2) ∧ wipeE ρ2 vs = ρ) → lcGo vs bd mYes me ds ρ = .ok (ds.map g, ρ)
  | [], _ => rfl
  | d :: ds, h => by
    obtain ⟨ρ1, ρ2, e1, e2, e3⟩ := h d List.mem_cons_self
    have ih := lcGo_map g ds fun d m => h d (List.mem_cons_of_mem _ m)
    show ((bd d >>= fun _ => nx mYes >>= fun b => _) : M (List D)) ρ = _
    rw [bnd, e1, rb_ok, bnd]
    show ((nx me >>= fun y => clr vs >>= fun _ => lcGo vs bd mYes me ds >>= fun ys => pure (y :: ys)) : M (List D)) ρ1 = _
    rw [bnd]
    have e4 : nx me ρ1 = .ok (g d, ρ2) := by unfold nx; rw [e2]
    rw [e4, rb_ok, bnd]
    show (((lcGo vs bd mYes me ds >>= fun ys => pure (g d :: ys)) : M (List D)) (wipeE ρ2 vs)) = _
    rw [e3, bnd, ih, rb_ok]
    rfl
theorem eLc_map {vs : List Nat} {mi : M (List D)} {bd : D → M Unit} {me : M D} {ρ ρ1 : En} {ds : List D} (g : D → D) (h0 : mi ρ = .ok (ds, ρ1)) (hn : noOwn ρ1 vs = true) (hl : ds.length ≤ sizeLine)
    (h : ∀ d ∈ ds, ∃ ρ2 ρ3, bd d (wipeE ρ1 vs) = .ok ((), ρ2) ∧ me ρ2 = .ok (g d, ρ3) ∧ wipeE ρ3 vs = wipeE ρ1 vs) : eLc vs mi bd mYes me ρ = .ok (ds.map g, restE ρ1 (wipeE ρ1 vs) vs) := by
  show (mi ρ).bind (fun p => if noOwn p.2 vs = true ∧ p.1.length ≤ sizeLine then (lcGo vs bd mYes me p.1 (wipeE p.2 vs)).bind fun q => .ok (q.1, restE p.2 q.2 vs) else .bad) = _
  rw [h0, rb_ok]
  show (if noOwn ρ1 vs = true ∧ ds.length ≤ sizeLine then (lcGo vs bd mYes me ds (wipeE ρ1 vs)).bind fun q => .ok (q.1, restE ρ1 q.2 vs) else .bad) = _
  rw [if_pos ⟨hn, hl⟩, lcGo_map g ds h, rb_ok]
theorem whGo_end {mt : M Bool} {body : M Fl} {n : Nat} {ρ ρ1 : En} (h : mt ρ = .ok (false, ρ1)) : whGo mt body (n + 1) ρ = .ok (.nx, ρ1) := by
  show ((mt >>= fun c => _) : M Fl) ρ = _
  rw [bnd, h, rb_ok]
  rfl
theorem whGo_step {mt : M Bool} {body : M Fl} {n : Nat} {ρ ρ1 ρ2 : En} (h : mt ρ = .ok (true, ρ1)) (h2 : body ρ1 = .ok (.nx, ρ2)) : whGo mt body (n + 1) ρ = whGo mt body n ρ2 := by
  show ((mt >>= fun c => _) : M Fl) ρ = _
  rw [bnd, h, rb_ok]
  show ((body >>= fun f => _) : M Fl) ρ1 = _
  rw [bnd, h2, rb_ok]
/-! ### rows of whole numbers -/
abbrev dInts (ns : List Int) : List D := ns.map PyData.int
abbrev dTup (ns : List Int) : D := .tuple (dInts ns)
theorem eqv_ints : ∀ ns ms : List Int, PyData.eqvAll (dInts ns) (dInts ms) = decide (ns = ms)
  | [], [] => rfl
  | [], m :: ms => rfl
  | n :: ns, [] => rfl
  | n :: ns, m :: ms => by
    show (PyData.eqv (.int n) (.int m) && PyData.eqvAll (dInts ns) (dInts ms)) = _
    rw [eqv_ints ns ms]
    have : PyData.eqv (.int n) (.int m) = decide (n = m) := by first | rfl | (unfold PyData.eqv; rfl) | simp [PyData.eqv]
    rw [this]
    by_cases e : n = m <;> by_cases e2 : ns = ms <;> simp [e, e2]
theorem at_ints {t : List Int} {i : Int} (h0 : 0 ≤ i) (h1 : i < t.length) : atI (dInts t) i = some (.int (t.getD i.toNat 0)) := by
  have h2 : i.toNat < t.length := by omega
  unfold atI ixN
  rw [List.length_map, if_pos h0, if_pos h1]
  simp [List.getD, h2]
theorem shaped_ints (t : List Int) : SeqAt.shaped (dTup t) = true := by
  have h := PySem.W.shaped_ints t
  unfold SeqAt.shaped at h ⊢
  simpa [PyData.canLay0, PyData.depth] using h
theorem ne_tups (t u : List Int) : dNe (dTup t) (dTup u) = .ok (.bool (!decide (t = u))) := by
  unfold dNe
  rw [if_pos (by rw [shaped_ints, shaped_ints]; rfl)]
  show Res.ok (PyData.bool (!PyData.eqvAll (dInts t) (dInts u))) = _
  rw [eqv_ints]
theorem eq_tups (t u : List Int) : dEq (dTup t) (dTup u) = .ok (.bool (decide (t = u))) := by
  unfold dEq
  rw [if_pos (by rw [shaped_ints, shaped_ints]; rfl)]
  show Res.ok (PyData.bool (PyData.eqvAll (dInts t) (dInts u))) = _
  rw [eqv_ints]
theorem rg_ints (a b : Int) : rgD a b = dInts ((List.range (b - a).toNat).map fun i : Nat => a + (i : Int)) := by
  unfold rgD dInts
  rw [List.map_map]; rfl
theorem rgT_ok {a b : Int} (h : RgOk a b) : gRgT (a, b) = .ok (dTup ((List.range (b - a).toNat).map fun i : Nat => a + (i : Int))) := by
  rw [dTup, ← rg_ints]; exact if_pos h
theorem rgL_ok {a b : Int} (h : RgOk a b) : gRgL (a, b) = .ok (dInts ((List.range (b - a).toNat).map fun i : Nat => a + (i : Int))) := by
  rw [← rg_ints]; exact if_pos h
theorem rg_ok {a b : Int} (h : RgB a b) : gRg (a, b) = .ok (dInts ((List.range (b - a).toNat).map fun i : Nat => a + (i : Int))) := by
  rw [← rg_ints]; exact if_pos h
/-! ### step by step -/
theorem seq_nx {a b : M Fl} {ρ ρ1 : En} {r : Res (Fl × En)} (h : a ρ = .ok (.nx, ρ1)) (h2 : b ρ1 = r) : sSeq a b ρ = r := by
  rw [a_seq, h, rb_ok]; exact h2
theorem seq_rt {a b : M Fl} {ρ ρ1 : En} {d : D} (h : a ρ = .ok (.rt d, ρ1)) : sSeq a b ρ = .ok (.rt d, ρ1) := by
  rw [a_seq, h, rb_ok]; rfl
theorem ret_ok {m : M D} {ρ ρ1 : En} {d : D} (h : m ρ = .ok (d, ρ1)) : sRet m ρ = .ok (.rt d, ρ1) := by
  rw [a_ret, h, rb_ok]
theorem setO_ok {i : Nat} {m : M (List D)} {ρ ρ1 ρ2 : En} {ds : List D} (h : m ρ = .ok (ds, ρ1)) (hi : i < ρ1.length) (h2 : ρ1.set i (.own ds) = ρ2) : sSetO i m ρ = .ok (.nx, ρ2) := by
  rw [a_setO, h, rb_ok]
  unfold setO
  rw [if_pos hi, rb_ok, h2]
theorem set_ok {i : Nat} {m : M D} {ρ ρ1 ρ2 : En} {d : D} (h : m ρ = .ok (d, ρ1)) (hi : i < ρ1.length) (h2 : ρ1.set i (.val d) = ρ2) : sSet i m ρ = .ok (.nx, ρ2) := by
  rw [a_set, h, rb_ok]
  unfold setV
  rw [if_pos hi, rb_ok, h2]
theorem for_ok {mi : M (List D)} {bd : D → M Unit} {body : M Fl} {ρ ρ1 : En} {ds : List D} {r : Res (Fl × En)} (h : mi ρ = .ok (ds, ρ1)) (h2 : forGo bd body ds ρ1 = r) : sFor mi bd body ρ = r := by
  rw [a_for, h, rb_ok]; exact h2
theorem if_f {t : M Bool} {a b : M Fl} {ρ ρ1 : En} {r : Res (Fl × En)} (h : t ρ = .ok (false, ρ1)) (h2 : b ρ1 = r) : sIf t a b ρ = r := by
  rw [a_sif, h, rb_ok]; exact h2
theorem if_t {t : M Bool} {a b : M Fl} {ρ ρ1 : En} {r : Res (Fl × En)} (h : t ρ = .ok (true, ρ1)) (h2 : a ρ1 = r) : sIf t a b ρ = r := by
  rw [a_sif, h, rb_ok]; exact h2
theorem or_f {a b : M Bool} {ρ ρ1 : En} {r : Res (Bool × En)} (h : a ρ = .ok (false, ρ1)) (h2 : b ρ1 = r) : eOr a b ρ = r := by
  rw [a_or, h, rb_ok]; exact h2
theorem par_ok2 {i j : Nat} {ms : M (List D)} {ρ ρ1 ρ2 : En} {d e : D} (h : ms ρ = .ok ([d, e], ρ1)) (hi : i < ρ1.length) (hj : j < ρ1.length) (h2 : (ρ1.set i (.val d)).set j (.val e) = ρ2) : sPar i j ms ρ = .ok (.nx, ρ2) := by
  rw [a_par, h, rb_ok, par_ok]
  unfold setV
  rw [if_pos hi, rb_ok, if_pos (by rw [List.length_set]; exact hj), rb_ok, h2]
end VS

set_option Elab.async false
set_option linter.all false
set_option maxRecDepth 100000
set_option maxHeartbeats 4000000
namespace VS
open PySem PySem.Spec PyProof.Rows L2 HT
/-! ### t[::-1] of a tuple; {0: 1} -/
section
variable {prog : Program} {w : World} {A : Around} {E : Value → Shared → Prop} {s : Shared}
theorem adj_rev (n : Nat) : Builtin.Slice.sliceAdjust none none (-1) (n : Int) = ((n : Int) - 1, -1) := rfl
theorem places_rev (n : Nat) : Builtin.Slice.slicePlaces ((n : Int) - 1) (-1) (-1) = n := by
  unfold Builtin.Slice.slicePlaces
  rw [if_neg (by decide)]
  by_cases h : n = 0
  · subst h; rfl
  · rw [if_pos (by omega)]
    have e : ((n : Int) - 1 - -1 - 1) / - -1 = (n : Int) - 1 := by
      rw [show (- -1 : Int) = 1 from rfl, Int.ediv_one]; omega
    rw [e]; omega
theorem fm_map {α β : Type} {f : α → Option β} {g : α → β} : ∀ l : List α, (∀ k ∈ l, f k = some (g k)) → l.filterMap f = l.map g
  | [], _ => rfl
  | x :: l, h => by
    rw [List.filterMap_cons, h x List.mem_cons_self, List.map_cons, fm_map l fun k m => h k (List.mem_cons_of_mem _ m)]
theorem getD_in {l : List Value} {i : Nat} {d : Value} (h : i < l.length) : l.getD i d = l[i] := by
  rw [List.getD_eq_getElem?_getD, List.getElem?_eq_getElem h]; rfl
theorem pick_rev (xs : Array Value) : ((List.range xs.size).filterMap fun (k : Nat) => xs[((xs.size : Int) - 1 + (k : Int) * -1).toNat]?) = xs.toList.reverse := by
  rw [fm_map (g := fun k => xs.toList.reverse.getD k .none) _ fun k hk => ?_]
  · refine List.ext_getElem (by simp) fun i h1 h2 => ?_
    rw [List.getElem_map, List.getElem_range, getD_in h2]
  · have hk' := List.mem_range.mp hk
    have e : ((xs.size : Int) - 1 + (k : Int) * -1).toNat = xs.size - 1 - k := by omega
    rw [e]
    have h3 : k < xs.toList.reverse.length := by rw [List.length_reverse, Array.length_toList]; exact hk'
    have h2 : xs.size - 1 - k < xs.size := by omega
    rw [Array.getElem?_eq_getElem h2]
    rw [getD_in h3, List.getElem_reverse]
    simp
theorem item_rev {t sl : Addr} {xs : Array Value} {vl vu vs : Value} {Q : Value → Shared → Prop} (ht : IsTup s.heap t xs) (hs : s.heap.IsSliceOf sl vl vu vs) (pl : IsPart vl none) (pu : IsPart vu none) (ps : IsPart vs (some (-1)))
    (h : Q (.ref s.heap.objs.size) { s with heap := s.heap.push { cls := .type "tuple", data := .seq xs.toList.reverse.toArray } }) (hz : xs.size ≤ sizeLine) : wpAny (model prog w) A (getItem (.ref t) (.ref sl)) Q E s := by
  have hk : sizeOk (.seq xs.toList.reverse.toArray) := by
    show xs.toList.reverse.toArray.size ≤ sizeLine
    rw [List.size_toArray, List.length_reverse, Array.length_toList]; exact hz
  obtain ⟨os, hos, hcs, hds⟩ := id hs; have hT : s.TypeIs (.ref sl) "slice" := ⟨os, hos, hcs⟩
  unfold getItem; try with_reducible refine wpAny_holding ?_
  first | (refine wpAny_bind (wpAny_pure ?_); refine wpAny_bind (wpAny_sequenceKey ht.typeIs (by decide) ?_)) | refine wpAny_bind (wpAny_sequenceKey ht.typeIs (by decide) ?_)
  refine wpAny_bind (wpAny_callSpecial?_slot (name := Str.ofString "__getitem__") ht.typeIs PyProof.Rows.slot_tuple_getitem (wpAny_call_entry PyProof.Rows.slot_tuple_getitem ht.typeIs entry_tuple_getitem ?_ (args_tuple_getitem _ _)))
  show wpAny _ _ (Builtin.Tuple.tupleItemsOf (.ref t) >>= _) _ _ s; refine wpAny_bind (tupleItemsOf_ ht ?_); refine wpAny_bind (wpAny_typeOf hT ?_); rw [if_pos (by decide)]
  have ap : ∀ (A' : Around) (E' : Value → Shared → Prop) (R : Int × Int × Nat → Shared → Prop), R ((xs.size : Int) - 1, -1, xs.size) s → wpAny (model prog w) A' (Builtin.Slice.sliceApplied (.ref sl) (pure (xs.size : Int))) R E' s := fun A' E' R hR => by
    unfold Builtin.Slice.sliceApplied Builtin.Slice.sliceFields
    refine wpAny_bind (wpAny_bind (wpAny_field hos hds (x := vl) rfl (wpAny_bind (wpAny_field hos hds (x := vu) rfl (wpAny_bind (wpAny_field hos hds (x := vs) rfl (wpAny_pure ?_)))))))
    refine wpAny_bind (slicePart_ ps ?_)
    show wpAny _ _ (if ((-1 : Int) == 0) = true then _ else _) _ _ s; rw [if_neg (by decide)]
    refine wpAny_bind (slicePart_ pl (wpAny_bind (slicePart_ pu (wpAny_bind (wpAny_pure ?_)))))
    show wpAny _ _ (match Builtin.Slice.sliceAdjust none none (-1) (xs.size : Int) with | (lo, hi) => pure (lo, (-1 : Int), Builtin.Slice.slicePlaces lo hi (-1))) _ _ s
    rw [adj_rev]
    show wpAny _ _ (pure ((xs.size : Int) - 1, (-1 : Int), Builtin.Slice.slicePlaces ((xs.size : Int) - 1) (-1) (-1))) _ _ s
    rw [places_rev]; exact wpAny_pure hR
  refine wpAny_bind (ap _ _ _ ?_)
  have hno : ¬ (((xs.size : Int) - 1 == 0 && (-1 : Int) == 1 && xs.size == xs.size) = true) := by
    rw [show ((-1 : Int) == 1) = false from rfl, Bool.and_false, Bool.false_and]; exact Bool.false_ne_true
  show wpAny _ _ (if ((xs.size : Int) - 1 == 0 && (-1 : Int) == 1 && xs.size == xs.size) = true then _ else _) _ _ s
  rw [if_neg hno, pick_rev]
  first
    | exact wpAny_bind (m := Builtin.Tuple.tupleExact _) (wpAny_newObj_type (wpAny_pure ⟨_, rfl, wpAny_pure h⟩) hk)
    | exact wpAny_bind (m := Builtin.Tuple.tupleExact _) (wpAny_newObj_type (wpAny_bind (wpAny_pure (wpAny_pure ⟨_, rfl, wpAny_pure h⟩))) hk)
    | exact wpAny_bind (wpAny_bind (m := Builtin.Tuple.tupleExact _) (wpAny_newObj_type (wpAny_pure (wpAny_pure ⟨_, rfl, wpAny_pure h⟩)) hk))
    | exact wpAny_bind (wpAny_bind (m := Builtin.Tuple.tupleExact _) (wpAny_newObj_type (wpAny_pure ⟨_, rfl, wpAny_pure h⟩) hk))
end
section
variable {X : Cx} {C : SC}
def tRevT (K : PySem.W.Frag) (te : TE) : TE := fun σ H Q => te σ H fun x H1 => ∃ a xs, x = .ref a ∧ SqT K H1 a xs ∧ ∀ p, H1 p = none → Q (.ref p) (upd H1 p (.tup xs.reverse))
theorem pe_revT {e : Expr} {te : TE} {k : Nat} {p1 p2 p3 pos : Pos} (he : PE X e te) : PE X (.Subscript e (.Slice none none (some (.UnaryOp .USub (.Constant (.int 1) k p1) p2)) p3) pos) (tRevT X.K te) := by
  refine ⟨fun pins s σ H Q I h => ?_⟩
  refine Subscript_ (thn (he.run pins s σ H _ I h) fun v s1 ⟨x, H1, I1, r1, a, xs, ex, hx, q⟩ => ?_)
  subst ex; cases r1
  have st : L2.PO X (some (.UnaryOp .USub (.Constant (.int 1) k p1) p2)) (tPart (tUn (rU fun i => .int (-i)) (tC (.int 1)))) := po_some (pe_un un_neg pe_int)
  refine wpAny_Slice (thn (po_none.run pins s1 σ H1 (fun o H2 => o = none ∧ H2 = H1) I1 ⟨rfl, rfl⟩) fun vl s2 ⟨l, H2, I2, pl, el, e2⟩ => ?_); subst el e2
  refine thn (po_none.run pins s2 σ H2 (fun o H3 => o = none ∧ H3 = H2) I2 ⟨rfl, rfl⟩) fun vu s3 ⟨u, H3, I3, pu, eu, e3⟩ => ?_; subst eu e3
  refine thn (st.run pins s3 σ H3 (fun o H4 => o = some (-1) ∧ H4 = H3) I3 ⟨1, rfl, -1, rfl, rfl, rfl⟩) fun vs s4 ⟨o, H4, I4, ps, eo, e4⟩ => ?_; subst eo e4
  have I5 : Inv X pins σ H4 { s4 with heap := s4.heap.push { cls := .type "slice", data := .fields #[vl, vu, vs] } } := I4.kept (t' := s4.toks) fun b ob q => Heap.get?_push_of_some _ q
  obtain ⟨its, r, ht, hz⟩ := I5.tuple hx
  have hlen := r.length
  show wpAny (model X.prog X.w) X.A (subscriptTail e (.Slice none none (some (.UnaryOp .USub (.Constant (.int 1) k p1) p2)) p3) (.ref a) (.ref s4.heap.objs.size)) (EP X pins σ Q) X.xe { s4 with heap := s4.heap.push { cls := .type "slice", data := .fields #[vl, vu, vs] } }
  refine tail_any (ops := [.ref a, .ref s4.heap.objs.size]) ht.typeIs (PyProof.Rows.slot_tuple_getitem.lookup) ?_ (by with_unfolding_all rfl)
  refine item_rev ht (Heap.IsSliceOf.new _ vl vu vs) pl pu ps ?_ (by rw [List.size_toArray, ← hlen]; exact hz)
  refine ⟨.ref _, _, I5.laid (t' := s4.toks) (o := .tup xs.reverse) (fun b ob q => Heap.get?_push_of_some _ q) (Nat.le_refl _) ?_, rfl, q _ (I5.hok.fresh (Nat.le_refl _))⟩
  exact ⟨by rw [List.length_reverse]; exact hz, _, r.reverse, IsTup.new _ _⟩
def dRev : D → Res D
  | .tuple xs => .ok (.tuple xs.reverse)
  | _ => .bad
theorem m_rev {e : Expr} {ma : M (M D)} {k : Nat} {p1 p2 p3 pos : Pos} (he : PE X e (tL X.K C ma)) : PE X (.Subscript e (.Slice none none (some (.UnaryOp .USub (.Constant (.int 1) k p1) p2)) p3) pos) (tM X.K C (e1 dRev ma)) :=
  pe_imp (pe_revT he) fun σ H Q ⟨B, F, ρ, S, q⟩ => by
    refine tL.of S q.bind fun l ρ1 h1 v F1 H1 s1 S1 r1 => ?_
    obtain ⟨d, rd, h2⟩ := late_step S1 r1 h1
    cases d <;> try exact (RX.bad_elim (show RX C B _ (M.lift _ ρ1) from h2) rfl).elim
    obtain ⟨p, xs, rfl, fp, hp, zx, r⟩ := rpv_tup S1.fr rd
    refine ⟨p, xs, rfl, .of hp, fun np hn => ?_⟩
    exact pd_new (d := .tuple _) S1 (h2.imp fun _ _ q => q.mono s1) rfl hn ⟨np, _, rfl, upd_same, by rw [List.length_reverse]; exact zx, r.reverse.mono (same_upd (S1.fresh hn).1)⟩
theorem m_dict1 {k v : Int} {j i : Nat} {p1 p2 pos : Pos} : PE X (.Dict [some (.Constant (.int k) j p1)] [.Constant (.int v) i p2] pos) (tM X.K C (pure (.dict [(.int k, .int v)]))) :=
  pe_imp (pe_disp (pps_cons (tk := tC (.int k)) (tv := tC (.int v)) pe_int pe_int pps_nil) rfl rfl (by simp) (by simp)) fun σ H Q ⟨B, F, ρ, S, q⟩ => by
    intro p hp
    refine ⟨upd_same, [(.inl k, .int v)], rfl, by simp, ?_⟩
    rw [upd_upd]
    exact pd_new (r := .ok (.dict [(.int k, .int v)])) (d := .dict [(.int k, .int v)]) S q rfl hp ⟨p, _, rfl, upd_same, _, _, _, rfl, rfl, rfl, rfl⟩
end
end VS

set_option Elab.async false
set_option linter.all false
set_option maxRecDepth 100000
set_option maxHeartbeats 4000000
namespace VS
open PySem PySem.Spec PyProof.Rows L2
/-! ### own dicts -/
section
variable {K : PySem.W.Frag} {C : SC} {B : Bs} {F F' H H' : Hp} {σ σ' : L2.St} {ρ ρ2 : En}
/-- something new that nobody holds goes into a slot -/
theorem SR.setX (S : SR K C B F σ H ρ) {i : Nat} {p : Addr} {sl : Sl} (ni : C.rf = none ∨ i ≠ 0) (no : ∀ i, ¬ OwnAt σ ρ i p) (ok : SlOk K C B F H sl (some (.ref p))) :
    SR K C B F (σ.set i (some (.ref p))) H (ρ.set i sl) := by
  have key : ∀ {j q}, OwnAt (σ.set i (some (.ref p))) (ρ.set i sl) j q → (j = i ∧ q = p) ∨ (j ≠ i ∧ OwnAt σ ρ j q) := fun {j q} h => by
    obtain ⟨s, e1, o, e2⟩ := h
    by_cases hj : i = j
    · subst hj
      have hlt := (List.getElem?_eq_some_iff.mp e2).1
      rw [List.length_set] at hlt
      rw [List.getElem?_set_self hlt] at e2
      cases e2
      exact .inl ⟨rfl, rfl⟩
    · rw [List.getElem?_set_ne hj] at e1 e2
      exact .inr ⟨Ne.symm hj, s, e1, o, e2⟩
  refine ⟨S.fr, S.nf, S.kp, by simpa using S.len, fun j s w e1 e2 => ?_, fun j k q h1 h2 => ?_, fun q hq => ?_⟩
  · by_cases hj : i = j
    · subst hj
      have hlt := (List.getElem?_eq_some_iff.mp e1).1
      rw [List.length_set] at hlt
      rw [List.getElem?_set_self hlt] at e1
      cases e1
      rw [List.getElem?_set_self (by have := S.len; omega)] at e2
      cases e2
      exact ok
    · rw [List.getElem?_set_ne hj] at e1 e2
      exact S.sl j s w e1 e2
  · rcases key h1 with ⟨rfl, rfl⟩ | ⟨n1, o1⟩
    · rcases key h2 with ⟨rfl, _⟩ | ⟨n2, o2⟩
      · rfl
      · exact (no _ o2).elim
    · rcases key h2 with ⟨rfl, rfl⟩ | ⟨n2, o2⟩
      · exact (no _ o1).elim
      · exact S.ap j k q o1 o2
  · obtain ⟨h1, ds', h2⟩ := S.rf q hq
    rcases ni with n | n
    · rw [n] at hq; cases hq
    · exact ⟨by rw [List.getElem?_set_ne n]; exact h1, ds', by rw [List.getElem?_set_ne n]; exact h2⟩
/-- what stands in an own slot is changed -/
theorem SR.updX (S : SR K C B F σ H ρ) {i : Nat} {s0 sl : Sl} {p : Addr} {o : HO} (e : ρ[i]? = some s0) (os : s0.isOwn = true) (nl : ∀ ds, s0 ≠ .own ds) (ev : σ[i]? = some (some (.ref p))) (at_ : At C B F p) (ok : SlOk K C B F (upd H p o) sl (some (.ref p))) :
    SR K C B F σ (upd H p o) (ρ.set i sl) := by
  have hlt := (List.getElem?_eq_some_iff.mp e).1
  have oi : OwnAt σ ρ i p := ⟨_, e, os, ev⟩
  obtain ⟨fp, bp⟩ := at_
  have key : ∀ {j q}, OwnAt σ (ρ.set i sl) j q → OwnAt σ ρ j q := fun {j q} h => by
    obtain ⟨s, e1, o, e2⟩ := h
    by_cases hj : i = j
    · subst hj
      exact ⟨_, e, os, e2⟩
    · rw [List.getElem?_set_ne hj] at e1
      exact ⟨s, e1, o, e2⟩
  refine ⟨fun a u ea => by rw [upd_ne (ne_of_none ea fp)]; exact S.fr _ _ ea, S.nf, fun a u ea ra => ?_, by simpa using S.len, fun j s w e1 e2 => ?_, fun j k q h1 h2 => S.ap j k q (key h1) (key h2), fun q hq => ?_⟩
  · rw [upd_ne]
    · exact S.kp a u ea ra
    · rintro rfl
      rcases bp with b | b
      · rw [b] at ea; cases ea
      · exact ra b
  · by_cases hj : i = j
    · subst hj
      rw [List.getElem?_set_self hlt] at e1
      cases e1
      rw [ev] at e2; cases e2
      exact ok
    · rw [List.getElem?_set_ne hj] at e1
      refine (S.sl j s w e1 e2).mono (Same.refl _) (fun q u eq os h => ?_) (fun _ _ _ n => n)
      rw [upd_ne]
      · exact h
      · rintro rfl
        exact hj (S.ap i j q oi ⟨s, e1, os, by rw [e2, eq]⟩)
  · obtain ⟨h1, ds'', h2⟩ := S.rf q hq
    by_cases hi : i = 0
    · subst hi
      rw [e] at h2
      exact (nl _ (Option.some.inj h2)).elim
    · exact ⟨h1, ds'', by rw [List.getElem?_set_ne hi]; exact h2⟩
end
/-! ### pairs of a key and a value -/
section
variable {κ : Type} [DecidableEq κ] {K : PySem.W.Frag} {F : Hp}
def valD (kvs : List (κ × D)) (k : κ) : Option D := (kvs.find? fun kv => decide (kv.1 = k)).map (·.2)
def putD (kvs : List (κ × D)) (k : κ) (d : D) : List (κ × D) :=
  if (kvs.any fun kv => decide (kv.1 = k)) = true then kvs.map (fun kv => if kv.1 = k then (kv.1, d) else kv) else kvs ++ [(k, d)]
theorem KvAll.uncons {p : κ × D} {r : List (κ × D)} {vs : List (κ × V)} (h : KvAll K F (p :: r) vs) : ∃ v vr, vs = (p.1, v) :: vr ∧ Rp K F p.2 v ∧ KvAll K F r vr := by
  obtain ⟨h1, h2⟩ := h
  cases vs with
  | nil => cases h1
  | cons q vr =>
    obtain ⟨k', v⟩ := q
    rw [List.map_cons, List.map_cons] at h1
    obtain ⟨e1, e2⟩ := List.cons.inj h1
    rw [List.map_cons, List.map_cons] at h2
    obtain ⟨y, ys, e3, r1, r2⟩ := h2
    obtain ⟨rfl, rfl⟩ := List.cons.inj e3
    exact ⟨v, vr, by rw [e1], r1, e2, r2⟩
theorem KvAll.consI {p : κ × D} {r : List (κ × D)} {v : V} {vr : List (κ × V)} (h : Rp K F p.2 v) (q : KvAll K F r vr) : KvAll K F (p :: r) ((p.1, v) :: vr) := ⟨by rw [List.map_cons, List.map_cons, q.1], ⟨_, _, rfl, h, q.2⟩⟩
theorem KvAll.nilI : KvAll K F ([] : List (κ × D)) [] := ⟨rfl, rfl⟩
theorem KvAll.lenE {ds : List (κ × D)} {vs : List (κ × V)} (h : KvAll K F ds vs) : ds.length = vs.length := by
  have := congrArg List.length h.1
  rwa [List.length_map, List.length_map] at this
theorem KvAll.val : ∀ {ds : List (κ × D)} {vs : List (κ × V)} (k : κ), KvAll K F ds vs → (valD ds k = none ∧ valV vs k = none) ∨ ∃ d v, valD ds k = some d ∧ valV vs k = some v ∧ Rp K F d v
  | [], vs, k, h => by
    have e : vs = [] := List.length_eq_zero_iff.mp h.lenE.symm
    subst e
    exact .inl ⟨rfl, rfl⟩
  | p :: r, vs, k, h => by
    obtain ⟨v, vr, rfl, r1, q⟩ := h.uncons
    by_cases e : p.1 = k
    · refine .inr ⟨p.2, v, ?_, valV_pos e, r1⟩
      simp [valD, List.find?_cons, e]
    · have e2 : valD (p :: r) k = valD r k := by simp [valD, List.find?_cons, e]
      rw [e2, valV_neg (p := (p.1, v)) e]
      exact KvAll.val k q
theorem KvAll.any : ∀ {ds : List (κ × D)} {vs : List (κ × V)} (k : κ), KvAll K F ds vs → (ds.any fun kv => decide (kv.1 = k)) = (vs.any fun kv => decide (kv.1 = k))
  | [], vs, k, h => by
    have e : vs = [] := List.length_eq_zero_iff.mp h.lenE.symm
    subst e; rfl
  | p :: r, vs, k, h => by
    obtain ⟨v, vr, rfl, r1, q⟩ := h.uncons
    rw [List.any_cons, List.any_cons, KvAll.any k q]
theorem KvAll.mapP : ∀ {ds : List (κ × D)} {vs : List (κ × V)} {k : κ} {d : D} {v : V}, Rp K F d v → KvAll K F ds vs → KvAll K F (ds.map fun kv => if kv.1 = k then (kv.1, d) else kv) (vs.map fun kv => if kv.1 = k then (kv.1, v) else kv)
  | [], vs, k, d, v, _, h => by
    have e : vs = [] := List.length_eq_zero_iff.mp h.lenE.symm
    subst e; exact KvAll.nilI
  | p :: r, vs, k, d, v, hr, h => by
    obtain ⟨u, vr, rfl, r1, q⟩ := h.uncons
    rw [List.map_cons, List.map_cons]
    by_cases e : p.1 = k
    · rw [if_pos e]
      show KvAll K F _ ((if p.1 = k then (p.1, v) else (p.1, u)) :: _)
      rw [if_pos e]
      exact KvAll.consI (p := (p.1, d)) hr (KvAll.mapP hr q)
    · rw [if_neg e]
      show KvAll K F _ ((if p.1 = k then (p.1, v) else (p.1, u)) :: _)
      rw [if_neg e]
      exact KvAll.consI r1 (KvAll.mapP hr q)
theorem KvAll.snoc : ∀ {ds : List (κ × D)} {vs : List (κ × V)} {k : κ} {d : D} {v : V}, Rp K F d v → KvAll K F ds vs → KvAll K F (ds ++ [(k, d)]) (vs ++ [(k, v)])
  | [], vs, k, d, v, hr, h => by
    have e : vs = [] := List.length_eq_zero_iff.mp h.lenE.symm
    subst e; exact KvAll.consI (p := (k, d)) hr KvAll.nilI
  | p :: r, vs, k, d, v, hr, h => by
    obtain ⟨u, vr, rfl, r1, q⟩ := h.uncons
    exact KvAll.consI r1 (KvAll.snoc hr q)
theorem KvAll.put {ds : List (κ × D)} {vs : List (κ × V)} {k : κ} {d : D} {v : V} (hr : Rp K F d v) (h : KvAll K F ds vs) : KvAll K F (putD ds k d) (putK vs k v) := by
  unfold putD putK
  rw [h.any k]
  split
  · exact KvAll.mapP hr h
  · exact KvAll.snoc hr h
theorem KvAll.monoF {F' : Hp} (s : Same F F') {ds : List (κ × D)} {vs : List (κ × V)} (h : KvAll K F ds vs) : KvAll K F' ds vs := ⟨h.1, h.2.mono s⟩
end
/-! ### keys -/
def keyO : D → Option Key
  | .int i => some (.inl i)
  | .str x => some (.inr x)
  | _ => none
def keysO : List D → Option (List Key)
  | [] => some []
  | d :: r => match keyO d, keysO r with
    | some k, some ks => some (k :: ks)
    | _, _ => none
def keyT : D → Option (List Key)
  | .tuple ds => keysO ds
  | _ => none
section
variable {K : PySem.W.Frag} {F H : Hp}
theorem keyO_rp {d : D} {k : Key} {v : V} (e : keyO d = some k) (r : Rp K F d v) : v = kV k := by
  cases d <;> simp only [keyO] at e <;> (try cases e) <;> exact r
theorem keysO_rp : ∀ {ds : List D} {ks : List Key} {vs : List V}, keysO ds = some ks → RpAll K F ds vs → vs = ks.map kV
  | [], ks, vs, e, r => by cases e; exact r
  | d :: ds, ks, vs, e, ⟨y, ys, e2, r, q⟩ => by
    subst e2
    unfold keysO at e
    cases e1 : keyO d with
    | none => rw [e1] at e; cases e
    | some k =>
      rw [e1] at e
      cases e3 : keysO ds with
      | none => rw [e3] at e; cases e
      | some ks' =>
        rw [e3] at e
        cases e
        rw [List.map_cons, keyO_rp e1 r, keysO_rp e3 q]
end
/-! ### what is done with an own dict -/
def getS : Sl → D → Res (Option D)
  | .dK kvs, k => match keyO k with
    | some k => .ok (valD kvs k)
    | none => .bad
  | .dT kvs, k => match keyT k with
    | some k => .ok (valD kvs k)
    | none => .bad
  | _, _ => .bad
def putS : Sl → D → D → Res Sl
  | .dK kvs, k, d => match keyO k with
    | some k => if kvs.length < sizeLine then .ok (.dK (putD kvs k d)) else .bad
    | none => .bad
  | .dT kvs, k, d => match keyT k with
    | some k => if kvs.length < sizeLine then .ok (.dT (putD kvs k d)) else .bad
    | none => .bad
  | _, _, _ => .bad
def isDc : Sl → Bool
  | .dK _ => true
  | .dT _ => true
  | _ => false
def isDI (i : Nat) : M Unit := fun ρ => match ρ[i]? with
  | some s => if isDc s = true then .ok ((), ρ) else .bad
  | none => .bad
def getDI (i : Nat) (k : D) : M (Option D) := fun ρ => match ρ[i]? with
  | some s => (getS s k).bind fun o => .ok (o, ρ)
  | none => .bad
def putDI (i : Nat) (k d : D) : M Unit := fun ρ => match ρ[i]? with
  | some s => (putS s k d).bind fun s' => .ok ((), ρ.set i s')
  | none => .bad
section
variable {K : PySem.W.Frag} {C : SC} {B : Bs} {F H : Hp} {σ : L2.St} {ρ : En} {i : Nat}
theorem isDI_read {α : Type} {Φ : α → En → Prop} {k : M α} (h : RX C B Φ ((isDI i >>= fun _ => k) ρ)) : (∃ s, ρ[i]? = some s ∧ isDc s = true) ∧ RX C B Φ (k ρ) := by
  have h2 := h.bind
  unfold isDI at h2
  cases e : ρ[i]? with
  | none => rw [e] at h2; exact h2.elim
  | some s =>
    rw [e] at h2
    by_cases z : isDc s = true
    · simp only [if_pos z] at h2
      exact ⟨⟨s, rfl, z⟩, h2⟩
    · simp only [if_neg z] at h2
      exact h2.elim
theorem dc_at (S : SR K C B F σ H ρ) {s : Sl} (e : ρ[i]? = some s) (d : isDc s = true) : ∃ p, σ[i]? = some (some (.ref p)) ∧ s.isOwn = true ∧ (∀ ds, s ≠ .own ds) := by
  have hlt := (List.getElem?_eq_some_iff.mp e).1
  have hl := S.len
  have ev : σ[i]? = some (σ[i]'(by omega)) := by simp
  have q := S.sl i _ _ e ev
  cases s <;> simp only [isDc, Bool.false_eq_true] at d
  all_goals
    obtain ⟨p, xs, ex, _⟩ := q
    rw [ex] at ev
    exact ⟨p, ev, rfl, fun _ z => nomatch z⟩
theorem get_at (S : SR K C B F σ H ρ) {s : Sl} {p : Addr} {k : D} {y : V} {o : Option D} (e : ρ[i]? = some s) (ev : σ[i]? = some (some (.ref p))) (g : getS s k = .ok o) (rk : Rp K F k y) : ∃ r, DGet H p y r ∧ r.isSome = o.isSome ∧ ∀ d, o = some d → ∃ v, r = some v ∧ Rp K F d v := by
  have q := S.sl i _ _ e ev
  have fin : ∀ {κ : Type} [DecidableEq κ] {ds : List (κ × D)} {xs : List (κ × V)} (key : κ), KvAll K F ds xs → (valV xs key).isSome = (valD ds key).isSome ∧ ∀ d, valD ds key = some d → ∃ v, valV xs key = some v ∧ Rp K F d v := fun key h => by
    rcases h.val key with ⟨a, b⟩ | ⟨d, v, a, b, r⟩
    · rw [a, b]; exact ⟨rfl, fun d z => nomatch z⟩
    · rw [a, b]
      refine ⟨rfl, fun d' z => ?_⟩
      cases z
      exact ⟨v, rfl, r⟩
  cases s <;> simp only [getS] at g <;> try cases g
  · obtain ⟨p', xs, ex, hp, kv, _⟩ := q
    cases ex
    cases ek : keyT k with
    | none => rw [ek] at g; cases g
    | some key =>
      rw [ek] at g
      cases g
      obtain ⟨f1, f2⟩ := fin key kv
      cases k <;> simp only [keyT] at ek <;> try cases ek
      obtain ⟨b, ws, rfl, fb, _, rw_⟩ := rk
      have ew := keysO_rp (show keysO _ = some key from ek) rw_
      refine ⟨valV xs key, .inr ⟨xs, key, b, .inl hp, rfl, ?_, rfl⟩, f1, f2⟩
      rw [← ew]
      exact S.fr _ _ fb
  · obtain ⟨p', xs, ex, hp, kv, _⟩ := q
    cases ex
    cases ek : keyO k with
    | none => rw [ek] at g; cases g
    | some key =>
      rw [ek] at g
      cases g
      obtain ⟨f1, f2⟩ := fin key kv
      exact ⟨valV xs key, .inl ⟨xs, key, .inl hp, keyO_rp ek rk, rfl⟩, f1, f2⟩
theorem put_at (S : SR K C B F σ H ρ) {s s' : Sl} {p : Addr} {k d : D} {y v : V} (e : ρ[i]? = some s) (ev : σ[i]? = some (some (.ref p))) (g : putS s k d = .ok s') (rk : Rp K F k y) (rd : Rp K F d v) : ∃ H', DPut H p y v H' ∧ SR K C B F σ H' (ρ.set i s') := by
  have q := S.sl i _ _ e ev
  cases s <;> simp only [putS] at g <;> try cases g
  · obtain ⟨p', xs, ex, hp, kv, at_⟩ := q
    cases ex
    cases ek : keyT k with
    | none => rw [ek] at g; cases g
    | some key =>
      rw [ek] at g
      simp only at g
      rename_i kvs
      by_cases z : kvs.length < sizeLine
      · rw [if_pos z] at g
        cases g
        cases k <;> simp only [keyT] at ek <;> try cases ek
        obtain ⟨b, ws, rfl, fb, _, rw_⟩ := rk
        have ew := keysO_rp (show keysO _ = some key from ek) rw_
        refine ⟨_, .inr ⟨xs, key, b, hp, rfl, ?_, by rw [← kv.lenE]; exact z, rfl⟩, ?_⟩
        · rw [← ew]
          exact S.fr _ _ fb
        · exact S.updX e rfl (fun _ z => nomatch z) ev at_ ⟨p, _, rfl, upd_same, kv.put rd, at_⟩
      · rw [if_neg z] at g; cases g
  · obtain ⟨p', xs, ex, hp, kv, at_⟩ := q
    cases ex
    cases ek : keyO k with
    | none => rw [ek] at g; cases g
    | some key =>
      rw [ek] at g
      simp only at g
      rename_i kvs
      by_cases z : kvs.length < sizeLine
      · rw [if_pos z] at g
        cases g
        refine ⟨_, .inl ⟨xs, key, hp, keyO_rp ek rk, by rw [← kv.lenE]; exact z, rfl⟩, ?_⟩
        exact S.updX e rfl (fun _ z => nomatch z) ev at_ ⟨p, _, rfl, upd_same, kv.put rd, at_⟩
      · rw [if_neg z] at g; cases g
theorem getS_dc {s : Sl} {k : D} {o : Option D} (g : getS s k = .ok o) : isDc s = true := by
  cases s <;> first | rfl | exact nomatch g
theorem putS_dc {s s' : Sl} {k d : D} (g : putS s k d = .ok s') : isDc s = true := by
  cases s <;> first | rfl | exact nomatch g
end
section
variable {X : Cx} {C : SC} {B : Bs} {a b : Expr} {pos pos' p2 spos : Pos} {x : Str} {mk : M (M D)} {m : M D} {i : Nat}
theorem Ok.units1 {k : Nat} (c : Ok X C k) : X.A.units + 1 < cLine := by have := c.room.un; omega
/-- the key, seen late, is no list of one's own -/
theorem key_rp {K : PySem.W.Frag} {F H : Hp} {k : D} {y : V} (h : RpV K F H k y) (hk : ∀ ds, k ≠ .list ds) : Rp K F k y := by
  rcases h with h | ⟨_, _, ds, e, _⟩
  · exact h
  · exact (hk ds e).elim
theorem getS_nl {s : Sl} {k : D} {o : Option D} (g : getS s k = .ok o) : ∀ ds, k ≠ .list ds := by
  rintro ds rfl
  cases s <;> exact nomatch g
theorem putS_nl {s s' : Sl} {k d : D} (g : putS s k d = .ok s') : ∀ ds, k ≠ .list ds := by
  rintro ds rfl
  cases s <;> exact nomatch g
def eGetD (i : Nat) (mk : M (M D)) : M D := isDI i >>= fun _ => mk >>= fun l => l >>= fun k => getDI i k >>= fun o => match o with
  | some d => pure d
  | none => fun _ => .bad
def someK : Option D → M D
  | some d => pure d
  | none => fun _ => .bad
theorem m_getD (i : Nat) (c : X.A.units + 1 < cLine) (hb : PE X b (tL X.K C mk)) (hN : X.N[i]? = some x := by rfl) (hv : Vis X.env.scope x := by first | exact Or.inl rfl | exact Or.inr (Or.inl rfl) | exact Or.inr (Or.inr rfl)) (hd : (x == ("__debug__" : Str)) = false := by decide)
    (hcd : (x == ("__classdict__" : Str)) = false := by decide) (hs : NoSl b := by exact fun _ _ => rfl) : PE X (.Subscript (.Name x p2) b pos) (tM X.K C (eGetD i mk)) :=
  pe_imp (pe_dget c (pe_var hN hv hd hcd) hb hs) fun σ H Q ⟨B, F, ρ, S, q⟩ => by
    obtain ⟨⟨s, e, ds⟩, q⟩ := isDI_read q
    obtain ⟨p, ev, _, _⟩ := dc_at S e ds
    refine ⟨_, ev, ?_⟩
    refine tL.of S q.bind fun l ρ1 h1 y F1 H1 s1 S1 r1 => ?_
    obtain ⟨k, rk, h2⟩ := late_step S1 r1 h1
    have h3 := h2.bind
    unfold getDI at h3
    cases e1 : ρ1[i]? with
    | none => rw [e1] at h3; exact h3.elim
    | some s2 =>
      rw [e1] at h3
      simp only at h3
      cases g : getS s2 k with
      | bad => rw [g] at h3; exact h3.elim
      | exc c => cases s2 <;> simp only [getS] at g <;> (try cases g) <;> (split at g <;> cases g)
      | ok o =>
        rw [g] at h3
        obtain ⟨r, dg, _, hr⟩ := get_at S1 e1 ev g (key_rp rk (getS_nl g))
        cases o with
        | none => exact (show False from h3).elim
        | some d =>
          obtain ⟨v, rfl, rv⟩ := hr d rfl
          exact ⟨p, v, rfl, dg, h3 v F1 H1 s1 S1 rv⟩
def eInD (neg : Bool) (i : Nat) (mk : M (M D)) : M D := mk >>= fun l => isDI i >>= fun _ => l >>= fun k => getDI i k >>= fun o => pure (.bool (if neg then !o.isSome else o.isSome))
theorem in_read {neg : Bool} {σ : L2.St} {H : Hp} {Q : VK} (h : tM X.K C (eInD neg i mk) σ H Q) : tL X.K C mk σ H (fun y H1 => ∃ v, σ[i]? = some (some v) ∧ ∃ a o, v = .ref a ∧ DGet H1 a y o ∧ Q (.bl (if neg then !o.isSome else o.isSome)) H1) := by
  obtain ⟨B, F, ρ, S, q⟩ := h
  refine tL.of S q.bind fun l ρ1 h1 y F1 H1 s1 S1 r1 => ?_
  obtain ⟨⟨s, e, ds⟩, h1⟩ := isDI_read h1
  obtain ⟨p, ev, _, _⟩ := dc_at S1 e ds
  refine ⟨_, ev, ?_⟩
  obtain ⟨k, rk, h2⟩ := late_step S1 r1 h1
  have h3 := h2.bind
  unfold getDI at h3
  rw [e] at h3
  simp only at h3
  cases g : getS s k with
  | bad => rw [g] at h3; exact h3.elim
  | exc c => cases s <;> simp only [getS] at g <;> (try cases g) <;> (split at g <;> cases g)
  | ok o =>
    rw [g] at h3
    obtain ⟨r, dg, hs, hr⟩ := get_at S1 e ev g (key_rp rk (getS_nl g))
    refine ⟨p, r, rfl, dg, ?_⟩
    rw [hs]
    exact h3 _ F1 H1 s1 S1 rfl
theorem m_inD (i : Nat) (c : X.A.units + 1 < cLine) (hb : PE X b (tL X.K C mk)) (hN : X.N[i]? = some x := by rfl) (hv : Vis X.env.scope x := by first | exact Or.inl rfl | exact Or.inr (Or.inl rfl) | exact Or.inr (Or.inr rfl)) (hd : (x == ("__debug__" : Str)) = false := by decide)
    (hcd : (x == ("__classdict__" : Str)) = false := by decide) (hm : behindInMarks .In (.Name x p2) = false := by rfl) : PE X (.Compare b [.In] [.Name x p2] pos) (tM X.K C (eInD false i mk)) :=
  pe_imp (pe_cmp (pc_din c hb (pe_var hN hv hd hcd)) hm) fun σ H Q h => in_read h
theorem m_notInD (i : Nat) (c : X.A.units + 1 < cLine) (hb : PE X b (tL X.K C mk)) (hN : X.N[i]? = some x := by rfl) (hv : Vis X.env.scope x := by first | exact Or.inl rfl | exact Or.inr (Or.inl rfl) | exact Or.inr (Or.inr rfl)) (hd : (x == ("__debug__" : Str)) = false := by decide)
    (hcd : (x == ("__classdict__" : Str)) = false := by decide) (hm : behindInMarks .NotIn (.Name x p2) = false := by rfl) : PE X (.Compare b [.NotIn] [.Name x p2] pos) (tM X.K C (eInD true i mk)) :=
  pe_imp (pe_cmp (pc_dnotin c hb (pe_var hN hv hd hcd)) hm) fun σ H Q h => in_read h
theorem mt_inD (i : Nat) (c : X.A.units + 1 < cLine) (hb : PE X b (tL X.K C mk)) (hN : X.N[i]? = some x := by rfl) (hv : Vis X.env.scope x := by first | exact Or.inl rfl | exact Or.inr (Or.inl rfl) | exact Or.inr (Or.inr rfl)) (hd : (x == ("__debug__" : Str)) = false := by decide)
    (hcd : (x == ("__classdict__" : Str)) = false := by decide) (hm : behindInMarks .In (.Name x p2) = false := by rfl) : PT X (.Compare b [.In] [.Name x p2] pos) (tB X.K C (eB (eInD false i mk))) :=
  pt_imp (pt_cmp (pc_din c hb (pe_var hN hv hd hcd)) hm) fun σ H Q h => in_read (eB_read h)
theorem mt_notInD (i : Nat) (c : X.A.units + 1 < cLine) (hb : PE X b (tL X.K C mk)) (hN : X.N[i]? = some x := by rfl) (hv : Vis X.env.scope x := by first | exact Or.inl rfl | exact Or.inr (Or.inl rfl) | exact Or.inr (Or.inr rfl)) (hd : (x == ("__debug__" : Str)) = false := by decide)
    (hcd : (x == ("__classdict__" : Str)) = false := by decide) (hm : behindInMarks .NotIn (.Name x p2) = false := by rfl) : PT X (.Compare b [.NotIn] [.Name x p2] pos) (tB X.K C (eB (eInD true i mk))) :=
  pt_imp (pt_cmp (pc_dnotin c hb (pe_var hN hv hd hcd)) hm) fun σ H Q h => in_read (eB_read h)
def sPutD (i : Nat) (mk : M (M D)) (m : M D) : M Fl := m >>= fun d => isDI i >>= fun _ => mk >>= fun l => l >>= fun k => putDI i k d >>= fun _ => pure .nx
theorem ms_putD (i : Nat) (c : X.A.units + 1 < cLine) (h : PE X a (tM X.K C m)) (hk : PE X b (tL X.K C mk)) (hN : X.N[i]? = some x := by rfl) (hv : Vis X.env.scope x := by first | exact Or.inl rfl | exact Or.inr (Or.inl rfl) | exact Or.inr (Or.inr rfl)) (hd : (x == ("__debug__" : Str)) = false := by decide)
    (hcd : (x == ("__classdict__" : Str)) = false := by decide) (hs : swapsWith a (some (.Subscript (.Name x p2) b spos)) pos.line X.env = pure false := by rfl) : PS X (.Assign [.Subscript (.Name x p2) b spos] a pos) (tS X.K C (sPutD i mk m)) :=
  ps_imp (ps_dput c (pe_var hN hv hd hcd) hk h hs) fun E σ H ⟨B, F, ρ, S, q⟩ => by
    refine tM.of S q.bind fun d ρ1 h1 v F1 H1 s1 S1 r1 => ?_
    obtain ⟨⟨s, e, ds⟩, h1⟩ := isDI_read h1
    obtain ⟨p, ev, _, _⟩ := dc_at S1 e ds
    refine ⟨_, ev, ?_⟩
    refine tL.of S1 h1.bind fun l ρ2 h2 y F2 H2 s2 S2 r2 => ?_
    obtain ⟨k, rk, h3⟩ := late_step S2 r2 h2
    have h4 := h3.bind
    unfold putDI at h4
    cases e1 : ρ2[i]? with
    | none => rw [e1] at h4; exact h4.elim
    | some s2' =>
      rw [e1] at h4
      simp only at h4
      cases g : putS s2' k d with
      | bad => rw [g] at h4; exact h4.elim
      | exc c =>
        exfalso
        cases s2' <;> simp only [putS] at g <;> (try cases g)
        all_goals
          split at g
          · split at g <;> cases g
          · cases g
      | ok s' =>
        rw [g] at h4
        obtain ⟨H', dp, S'⟩ := put_at S2 e1 ev g (key_rp rk (putS_nl g)) (r1.mono s2)
        exact ⟨p, H', rfl, dp, h4 σ F2 H' (s1.trans s2) S'⟩
def setS (i : Nat) (sl : Sl) : M Unit := fun ρ => if i < ρ.length then .ok ((), ρ.set i sl) else .bad
def sNewD (i : Nat) (sl : Sl) : M Fl := setS i sl >>= fun _ => pure .nx
theorem new_read {sl : Sl} {o : HO} {E : Ends} {σ : L2.St} {H : Hp} (ni : C.rf = none ∨ i ≠ 0) (ok : ∀ {B : Bs} {F : Hp} {p : Addr}, At C B F p → SlOk X.K C B F (upd H p o) sl (some (.ref p))) (h : tS X.K C (sNewD i sl) E σ H) : ∀ p, H p = none → E.nx (σ.set i (some (.ref p))) (upd H p o) := fun p hp => by
  obtain ⟨B, F, ρ, S, q⟩ := h
  have h2 := q.bind
  unfold setS at h2
  by_cases z : i < ρ.length
  · rw [if_pos z] at h2
    have no : ∀ j, ¬ OwnAt σ ρ j p := fun j oo => by
      obtain ⟨u, hu⟩ := own_there S oo
      rw [hp] at hu; cases hu
    exact h2 _ F _ (Same.refl _) ((S.alloc0 (o := o) hp).setX ni no (ok ⟨(S.fresh hp).1, .inl (S.fresh hp).2⟩))
  · rw [if_neg z] at h2
    exact h2.elim
theorem ms_newK (i : Nat) (ni : C.rf = none ∨ i ≠ 0) (hN : X.N.Nodup) (hi : X.N[i]? = some x := by rfl) (hx : Loc X.env.scope x := by first | exact .inl rfl | exact .inr rfl) (hs : swapsWith (.Dict [] [] p2) (some (.Name x pos')) pos.line X.env = pure false := by rfl) (hf : X.fn x = true ∨ X.env.scope.names.lookup x = some .local := by first | exact .inl rfl | exact .inr rfl) :
    PS X (.Assign [.Name x pos'] (.Dict [] [] p2) pos) (tS X.K C (sNewD i (.dK []))) := ps_imp (ps_set hN hi hx pe_dnewK hs hf) fun E σ H h => new_read (X := X) (sl := .dK []) ni (fun at_ => ⟨_, [], rfl, upd_same, KvAll.nilI, at_⟩) h
theorem ms_newT (i : Nat) (ni : C.rf = none ∨ i ≠ 0) (hN : X.N.Nodup) (hi : X.N[i]? = some x := by rfl) (hx : Loc X.env.scope x := by first | exact .inl rfl | exact .inr rfl) (hs : swapsWith (.Dict [] [] p2) (some (.Name x pos')) pos.line X.env = pure false := by rfl) (hf : X.fn x = true ∨ X.env.scope.names.lookup x = some .local := by first | exact .inl rfl | exact .inr rfl) :
    PS X (.Assign [.Name x pos'] (.Dict [] [] p2) pos) (tS X.K C (sNewD i (.dT []))) := ps_imp (ps_set hN hi hx pe_dnewT hs hf) fun E σ H h => new_read (X := X) (sl := .dT []) ni (fun at_ => ⟨_, [], rfl, upd_same, KvAll.nilI, at_⟩) h
/-! ### sorted(d), d with whole numbers for keys -/
def intsK : List Key → Option (List Int)
  | [] => some []
  | .inl i :: r => match intsK r with
    | some is => some (i :: is)
    | none => none
  | _ :: _ => none
theorem intsK_eq : ∀ {ks : List Key} {is : List Int}, intsK ks = some is → ks = is.map Sum.inl
  | [], is, h => by cases h; rfl
  | .inl i :: r, is, h => by
    unfold intsK at h
    cases e : intsK r with
    | none => rw [e] at h; cases h
    | some js =>
      rw [e] at h
      cases h
      rw [intsK_eq e]; rfl
  | .inr _ :: r, is, h => nomatch h
def sortDK : Sl → Res (List D)
  | .dK kvs => match intsK (kvs.map (·.1)) with
    | some ks => if ks.length < 64 then .ok ((sortI ks).map .int) else .bad
    | none => .bad
  | _ => .bad
def eSortD (i : Nat) : M (List D) := fun ρ => match ρ[i]? with
  | some s => (sortDK s).bind fun ds => .ok (ds, ρ)
  | none => .bad
theorem m_sortD (i : Nat) (hc : X.calm = true) (hm : X.mg "sorted" = none) (hN : X.N[i]? = some x := by rfl) (hv : Vis X.env.scope x := by first | exact Or.inl rfl | exact Or.inr (Or.inl rfl) | exact Or.inr (Or.inr rfl)) (hd : (x == ("__debug__" : Str)) = false := by decide)
    (hcd : (x == ("__classdict__" : Str)) = false := by decide) (hg : Gl X "sorted" := by rfl) (he : starEach [.Name x p2] X.env = (false, eval (.Name x p2) X.env) :: starEach [] X.env := by rfl) (hpl : (backTo pos (starEach [] X.env)).any (·.1) = false := by rfl) {p : Pos} :
    PE X (.Call (.Name "sorted" p) [.Name x p2] [] pos) (tO X.K C (eSortD i)) :=
  pe_imp (pe_callB (call_sortedDI hc) hg hm (by decide +kernel) (pa_cons (pe_var hN hv hd hcd) pa_nil he) (by decide) (by decide) he hpl) fun σ H Q ⟨B, F, ρ, S, q⟩ => by
    unfold eSortD at q
    cases e : ρ[i]? with
    | none => rw [e] at q; exact q.elim
    | some s =>
      rw [e] at q
      simp only at q
      have hlt := (List.getElem?_eq_some_iff.mp e).1
      have hl := S.len
      have ev : σ[i]? = some (σ[i]'(by omega)) := by simp
      have sq := S.sl i _ _ e ev
      cases s <;> try exact q.elim
      rename_i kvs
      obtain ⟨pp, xs, ex, hp, kv, at_⟩ := sq
      rw [ex] at ev
      cases ek : intsK (kvs.map (·.1)) with
      | none =>
        have z : sortDK (.dK kvs) = .bad := by simp only [sortDK, ek]
        rw [z] at q; exact q.elim
      | some ks =>
        by_cases h64 : ks.length < 64
        · have z : sortDK (.dK kvs) = .ok ((sortI ks).map .int) := by simp only [sortDK, ek, if_pos h64]
          refine ⟨_, ev, pp, xs, ks, rfl, .inl hp, by rw [← kv.1]; exact intsK_eq ek, h64, fun ys np pm sd nn => ?_⟩
          rw [sorted_unique (pm.trans (sortI_perm ks).symm) sd (sortI_sorted ks)]
          refine po_new (r := sortDK (.dK kvs)) S q z nn ?_ (RpAll.of_ints _)
          rw [List.length_map, (sortI_perm ks).length_eq, sizeLine_eq]; omega
        · have z : sortDK (.dK kvs) = .bad := by simp only [sortDK, ek, if_neg h64]
          rw [z] at q; exact q.elim
/-- {} as a value -/
theorem m_dict0 : PE X (.Dict [] [] pos) (tM X.K C (pure (.dict []))) := pe_imp pe_dnewK fun σ H Q ⟨B, F, ρ, S, q⟩ => fun p hp =>
  pd_new (r := .ok (.dict [])) (d := .dict []) S q rfl hp ⟨p, _, rfl, upd_same, rfl⟩
end
end VS

set_option Elab.async false
set_option linter.all false
set_option maxRecDepth 100000
set_option maxHeartbeats 4000000
namespace VS
open PySem PySem.Spec PyProof.Rows L2
/-! ### tuples of whole numbers, of any length but none -/
section
variable {prog : Program} {w : World} {A : Around} {E : Value → Shared → Prop} {s : Shared} {Q : Bool → Shared → Prop}
theorem lex_any {b fin : Bool} : ∀ {xs ys : List Value} {ns ms : List Int} (i : Nat), IntsAre xs ns → IntsAre ys ms → fin = decide (ns.length < ms.length) → Q (HT.lexLt ns ms) s → PySem.W.KatLex prog w A b fin Q (xs.zip ys) i s
  | _, _, _, _, i, .nil, .nil, hf, h => by
    rw [HT.lexLt_nil_nil] at h
    have e : fin = false := by rw [hf]; rfl
    subst e
    exact PySem.W.kat_nil h
  | _, _, _, _, i, .nil, .cons q u hy, hf, h => by
    rw [HT.lexLt_nil_cons] at h
    have e : fin = true := by rw [hf]; simp
    subst e
    exact PySem.W.kat_nil h
  | _, _, _, _, i, .cons p t hx, .nil, hf, h => by
    rw [HT.lexLt_cons_nil] at h
    have e : fin = false := by rw [hf]; simp
    subst e
    exact PySem.W.kat_nil h
  | _, _, _, _, i, @IntsAre.cons p t xs ns hx, @IntsAre.cons q u ys ms hy, hf, h => by
    rw [HT.lexLt_cons] at h
    show PySem.W.KatLex prog w A b fin Q ((Value.int p t, Value.int q u) :: xs.zip ys) i s
    refine PySem.W.kat_cons (wpAny_eqBool_int ?_)
    by_cases e : p = q
    · rw [if_pos e] at h
      subst e
      rw [beq_self_eq_true]
      exact PySem.W.kat_yes (lex_any (i + 1) hx hy (by rw [hf]; simp) h)
    · rw [if_neg e] at h
      rw [show (p == q) = false from beq_eq_false_iff_ne.mpr e]
      exact PySem.W.kat_no (TS.oneLt_ints _ h)
end
section
variable {prog : Program} {w : World} {A : Around} {E : Value → Shared → Prop} {s : Shared}
theorem size_ints {xs : Array Value} {ns : List Int} (h : IntsAre xs.toList ns) : xs.size = ns.length := by
  have := h.length
  rw [Array.length_toList] at this
  exact this
theorem tup_cmp {vs : List Value} {k : Value → List Int} (hp : ∀ v ∈ vs, TS.TupInts s.heap v (k v)) : SrtO.Cmp prog w A s (tuples' true) (fun p => p.1 ∈ vs) (SrtO.lt2 fun v u => HT.lexLt (k v) (k u)) := by
  intro p q hm hm'
  obtain ⟨a, xs, e, ⟨o, ho, hc, n, hd⟩, i⟩ := hp _ hm
  obtain ⟨a', ys, e', ⟨o', ho', hc', n', hd'⟩, i'⟩ := hp _ hm'
  show wpAny (model prog w) A (keyLt' (tuples' true) p.1 q.1) (fun r s' => s' = s ∧ r = HT.lexLt (k p.1) (k q.1)) (fun _ _ => False) s
  generalize k p.1 = ns at i ⊢
  generalize k q.1 = ms at i' ⊢
  rw [e, e']
  exact PySem.W.kat_lt ho hd ho' hd' (lex_any 0 i i' (by rw [size_ints i, size_ints i']) ⟨rfl, rfl⟩)
theorem firsts_any {h : Heap} {k : Value → List Int} : ∀ {vs : List Value}, (∀ v ∈ vs, TS.TupInts h v (k v) ∧ k v ≠ []) → ∃ fs : List Value, PySem.W.KatTups h vs fs ∧ fs.length = vs.length ∧ ∀ f ∈ fs, ∃ x t, f = Value.int x t
  | [], _ => ⟨[], PySem.W.KatTups.nil, rfl, fun _ hm => nomatch hm⟩
  | v :: vs, hp => by
    obtain ⟨fs, h1, h2, h3⟩ := firsts_any (vs := vs) fun v' hm => hp v' (List.mem_cons_of_mem _ hm)
    obtain ⟨⟨a, xs, e, ⟨o, ho, hc, n, hd⟩, i⟩, ne⟩ := hp v List.mem_cons_self
    generalize k v = ns at i ne
    obtain ⟨x, t, rest, hx⟩ : ∃ x t rest, xs.toList = Value.int x t :: rest := by
      cases i' : xs.toList with
      | nil => rw [i'] at i; cases i; exact (ne rfl).elim
      | cons y r => rw [i'] at i; cases i; exact ⟨_, _, _, rfl⟩
    subst e
    have h0 : xs[0]? = some (Value.int x t) := by rw [← Array.getElem?_toList, hx]; rfl
    refine ⟨.int x t :: fs, PySem.W.KatTups.cons ho hc hd h0 h1, by rw [List.length_cons, List.length_cons, h2], fun f hm => ?_⟩
    rcases List.mem_cons.mp hm with rfl | hm
    · exact ⟨x, t, rfl⟩
    · exact h3 f hm
theorem tups_sortable {a : Addr} {vs : List Value} {k : Value → List Int} (h0 : 2 ≤ vs.length) (hp1 : ∀ v ∈ vs, TS.TupInts s.heap v (k v)) (hp2 : vs.length ≤ 1 ∨ ∀ v ∈ vs, k v ≠ []) (ha : ∀ o, s.heap.get? a = some o → o.cls ≠ .type "tuple") : SrtO.SortableO prog w A s a vs fun v u => HT.lexLt (k v) (k u) := by
  intro h' keep
  have hp : ∀ v ∈ vs, TS.TupInts s.heap v (k v) ∧ k v ≠ [] := fun v hv => ⟨hp1 v hv, hp2.elim (fun z => by omega) fun z => z v hv⟩
  have hp' : ∀ v ∈ vs, TS.TupInts h' v (k v) ∧ k v ≠ [] := fun v hm => ⟨(hp v hm).1.keeps fun b o e c => keep b o (fun z => by subst z; exact ha o e c) e, (hp v hm).2⟩
  obtain ⟨fs, h1, h2, h3⟩ := firsts_any hp'
  refine ⟨tuples' true, fun Q E hq => ?_, tup_cmp fun v hm => (hp' v hm).1⟩
  refine PySem.W.kat_kind (T := .type "int") h1 (by omega) (fun f hm => ?_) (by rfl) ?_
  · obtain ⟨x, t, rfl⟩ := h3 f hm
    exact PySem.W.Looks.now
  · have e : (Value.type "int" != Value.type "tuple") = true := by first | decide +kernel | rfl | decide
    rw [e]
    exact hq
end
/-! ### sorted, as a rule -/
theorem swoT (k : V → List Int) : SrtO.Swo (fun x y : V => HT.lexLt (k x) (k y)) := NtL.swo_lexL k
def rSortedTs (K : PySem.W.Frag) : List V → Hp → VK → Prop := fun vs H Q => ∃ (a : Addr) (xs : List V) (k : V → List Int), vs = [V.ref a] ∧ SqL K H a xs ∧ (∀ x ∈ xs, ∃ t, x = V.ref t ∧ SqT K H t ((k x).map V.int)) ∧ (xs.length ≤ 1 ∨ ∀ x ∈ xs, k x ≠ []) ∧
  ∀ ys p, SrtO.Srtd (fun x y : V => HT.lexLt (k x) (k y)) ys → ys.Perm xs → H p = none → Q (.ref p) (upd H p (.lst ys))
section
variable {X : Cx}
theorem cr_sortedTs : CallR X (.builtin "sorted") (rSortedTs X.K) := by
  intro pins s σ H vs us Q I r h
  obtain ⟨a, xs, k, rfl, hs, hx, hne, q⟩ := h
  obtain ⟨its, rv, hl, hz⟩ := I.list hs
  obtain ⟨u, rfl, ru⟩ := vals1 r
  obtain rfl : u = Value.ref a := ru
  obtain ⟨e1, e2⟩ := refs_back rv fun x m => let ⟨t, e, _⟩ := hx x m; ⟨t, e⟩
  have hp : ∀ v ∈ its, TS.TupInts s.heap v (k (backV v)) := fun v hv => by
    obtain ⟨t, rfl⟩ := e2 v hv
    have hm : V.ref t ∈ xs := by rw [e1]; exact List.mem_map.mpr ⟨_, hv, rfl⟩
    obtain ⟨t', e, ht⟩ := hx _ hm
    cases e
    exact tupI_raw I ht
  have hp2 : its.length ≤ 1 ∨ ∀ v ∈ its, k (backV v) ≠ [] := hne.imp (fun z => by rw [← rv.length]; exact z) fun z v hv => by
    obtain ⟨t, rfl⟩ := e2 v hv
    exact z _ (by rw [e1]; exact List.mem_map.mpr ⟨_, hv, rfl⟩)
  refine SrtO.sorted_ord (NtL.swo_lexL fun u => k (backV u)) hl.isList (by rw [← rv.length]; exact hz) (fun h2 h₁ a' ha kk => ?_) fun out h1 h2 => ?_
  · refine tups_sortable (s := { s with heap := h₁ }) h2 (fun v hm => (hp v hm).keeps fun b o e _ => (kk b o e).2) hp2 fun o e => ?_
    have e' : some o = some (seqObj "list" its.toArray 0) := e.symm.trans ha
    cases e'
    intro c
    exact absurd (Value.type.inj c) (by decide)
  · have h3 : ∀ u ∈ out, ∃ a, u = Value.ref a := fun u hu => e2 u (h2.perm.mem_iff.mp hu)
    obtain ⟨ep, he'⟩ := PyProof.Rows.sortedAll_at s.heap its out.toArray
    have hb : (out.map backV).Perm xs := by
      rw [e1]
      exact h2.perm.map backV
    refine ⟨.ref _, upd H (s.heap.objs.size + 1) (.lst (out.map backV)), I.laid (t' := s.toks) (fun _ _ => PyProof.Rows.sortedAll_old) (Nat.le_succ _) ⟨?_, out, ep, vals_back h3, he'⟩, rfl, q _ _ (SrtO.srtd_map h1) hb (I.hok.fresh (Nat.le_succ _))⟩
    rw [hb.length_eq]
    exact hz
end
/-! ### .. over data -/
abbrev leT (a b : List Int) : Bool := !HT.lexLt b a
def sortT (ts : List (List Int)) : List (List Int) := ts.mergeSort leT
theorem leT_iff {a b : List Int} : leT a b = true ↔ HT.lexLt b a = false := by
  unfold leT
  rw [Bool.not_eq_true']
theorem leT_anti : ∀ {x y : List Int}, HT.lexLt x y = false → HT.lexLt y x = false → x = y
  | [], [], _, _ => rfl
  | [], y :: ys, h, _ => by rw [HT.lexLt_nil_cons] at h; cases h
  | x :: xs, [], _, h => by rw [HT.lexLt_nil_cons] at h; cases h
  | x :: xs, y :: ys, h1, h2 => by
    rw [HT.lexLt_cons] at h1 h2
    by_cases e : x = y
    · rw [if_pos e] at h1
      rw [if_pos e.symm] at h2
      rw [e, leT_anti h1 h2]
    · rw [if_neg e] at h1
      rw [if_neg (Ne.symm e)] at h2
      have a := of_decide_eq_false h1
      have b := of_decide_eq_false h2
      omega
theorem sortT_perm (ts : List (List Int)) : (sortT ts).Perm ts := List.mergeSort_perm _ _
theorem sortT_sorted (ts : List (List Int)) : (sortT ts).Pairwise fun p q => leT p q = true :=
  List.pairwise_mergeSort (le := leT) (fun a b c h1 h2 => by rw [leT_iff] at *; exact NtL.lex_tr _ _ _ h1 h2) (fun a b => by
    rw [Bool.or_eq_true, leT_iff, leT_iff]
    cases e : HT.lexLt b a with
    | false => exact Or.inl rfl
    | true => exact Or.inr (NtL.lex_asym _ _ e)) ts
theorem sortedT_unique : ∀ {xs ys : List (List Int)}, xs.Perm ys → xs.Pairwise (fun p q => leT p q = true) → ys.Pairwise (fun p q => leT p q = true) → xs = ys
  | [], ys, h, _, _ => by rw [List.nil_perm.mp h]
  | x :: xs, [], h, _, _ => by exact absurd h.symm (by simp)
  | x :: xs, y :: ys, h, h1, h2 => by
    have a1 := List.pairwise_cons.mp h1
    have a2 := List.pairwise_cons.mp h2
    have mx : x ∈ y :: ys := h.mem_iff.mp List.mem_cons_self
    have my : y ∈ x :: xs := h.mem_iff.mpr List.mem_cons_self
    have e : x = y := by
      rcases List.mem_cons.mp mx with e | e
      · exact e
      · rcases List.mem_cons.mp my with e' | e'
        · exact e'.symm
        · exact leT_anti (leT_iff.mp (a2.1 _ e)) (leT_iff.mp (a1.1 _ e'))
    subst e
    rw [sortedT_unique (List.Perm.cons_inv h) a1.2 a2.2]
def tupD (t : List Int) : D := .tuple (t.map .int)
def tupOf : D → Option (List Int)
  | .tuple ds => intsOf ds
  | _ => none
def tupsOf : List D → Option (List (List Int))
  | [] => some []
  | d :: r => match tupOf d, tupsOf r with
    | some t, some ts => some (t :: ts)
    | _, _ => none
theorem tupOf_eq {d : D} {t : List Int} (h : tupOf d = some t) : d = tupD t := by
  cases d <;> simp only [tupOf] at h <;> try cases h
  rename_i ds
  rw [intsOf_eq h]; rfl
theorem tupsOf_eq : ∀ {ds : List D} {ts : List (List Int)}, tupsOf ds = some ts → ds = ts.map tupD
  | [], ts, h => by cases h; rfl
  | d :: r, ts, h => by
    unfold tupsOf at h
    cases e1 : tupOf d with
    | none => rw [e1] at h; cases h
    | some t =>
      cases e2 : tupsOf r with
      | none => rw [e1, e2] at h; cases h
      | some ts' =>
        rw [e1, e2] at h
        cases h
        rw [tupOf_eq e1, tupsOf_eq e2]; rfl
theorem tupsOf_map : ∀ ts : List (List Int), tupsOf (ts.map tupD) = some ts
  | [] => rfl
  | t :: ts => by
    have e : tupOf (tupD t) = some t := intsOf_map t
    simp only [List.map_cons, tupsOf, e, tupsOf_map ts]
/-- what the library sorts: one tuple at most, or none of them empty -/
def okT (ts : List (List Int)) : Bool := decide (ts.length ≤ 1) || ts.all fun t => !t.isEmpty
theorem okT_iff {ts : List (List Int)} : okT ts = true ↔ ts.length ≤ 1 ∨ ∀ t ∈ ts, t ≠ [] := by
  unfold okT
  rw [Bool.or_eq_true, decide_eq_true_eq, List.all_eq_true]
  simp only [Bool.not_eq_true', List.isEmpty_eq_false_iff]
/-- sorted: of whole numbers, of tuples of such (none of them empty) -/
def gSorted2 : D → Res (List D)
  | .list ds => match intsOf ds with
    | some ns => .ok ((sortI ns).map .int)
    | none => match tupsOf ds with
      | some ts => if okT ts = true then .ok ((sortT ts).map tupD) else .bad
      | none => .bad
  | _ => .bad
def intV : V → Int
  | .int i => i
  | _ => 0
def kT (F : Hp) (v : V) : List Int := match v with
  | .ref t => match F t with
    | some (.tup xs) => xs.map intV
    | _ => []
  | _ => []
theorem tupT_at {K : PySem.W.Frag} {F H : Hp} {t : List Int} {v : V} (s : Same F H) (r : Rp K F (tupD t) v) : kT F v = t ∧ ∃ p, v = .ref p ∧ SqT K H p ((kT F v).map V.int) := by
  obtain ⟨p, xs, rfl, fp, _, r1⟩ := r
  have e := r1.ints
  subst e
  have ek : kT F (.ref p) = t := by
    unfold kT
    simp only [fp]
    rw [List.map_map]
    conv => rhs; rw [← List.map_id t]
    rfl
  refine ⟨ek, p, rfl, ?_⟩
  rw [ek]
  exact .of (s _ _ fp)
theorem tupsT_at {K : PySem.W.Frag} {F H : Hp} (s : Same F H) : ∀ {ts : List (List Int)} {vs : List V}, RpAll K F (ts.map tupD) vs → vs.map (kT F) = ts ∧ ∀ x ∈ vs, ∃ p, x = .ref p ∧ SqT K H p ((kT F x).map V.int)
  | [], vs, h => by cases h; exact ⟨rfl, fun _ m => nomatch m⟩
  | t :: ts, vs, ⟨y, ys, e, r, q⟩ => by
    subst e
    obtain ⟨a, b⟩ := tupsT_at s q
    obtain ⟨c, d⟩ := tupT_at s r
    refine ⟨by rw [List.map_cons, a, c], fun x m => ?_⟩
    rcases List.mem_cons.mp m with rfl | m
    · exact d
    · exact b x m
theorem tupsT_back {K : PySem.W.Frag} {F : Hp} : ∀ {vs : List V}, (∀ v ∈ vs, Rp K F (tupD (kT F v)) v) → RpAll K F ((vs.map (kT F)).map tupD) vs
  | [], _ => rfl
  | v :: vs, h => ⟨v, vs, rfl, h v List.mem_cons_self, tupsT_back fun u m => h u (List.mem_cons_of_mem _ m)⟩
def rSorted2 (K : PySem.W.Frag) : List V → Hp → VK → Prop := fun vs H Q => rSortedI K vs H Q ∨ rSortedTs K vs H Q
section
variable {X : Cx} {C : SC}
theorem cr_sorted2 : CallR X (.builtin "sorted") (rSorted2 X.K) := fun pins s σ H vs us Q I r h => by
  rcases h with h | h
  · exact cr_sortedI pins s σ H vs us Q I r h
  · exact cr_sortedTs pins s σ H vs us Q I r h
theorem f_sorted2 : Call1O X C (.builtin "sorted") gSorted2 := ⟨_, cr_sorted2, fun B F σ H ρ x d Q S rx h => by
  cases d <;> try exact (RX.bad_elim h rfl).elim
  rename_i ds
  obtain ⟨p, xs, rfl, fp, zx, r1⟩ := rpv_lst S.fr rx
  cases e : intsOf ds with
  | some ns =>
    have z := intsOf_eq e
    subst z
    have y := r1.ints
    subst y
    refine .inl ⟨p, ns, rfl, .inl fp, fun ns' q pm sd nq => ?_⟩
    rw [sorted_unique (pm.trans (sortI_perm ns).symm) sd (sortI_sorted ns)]
    refine po_new S h (by simp only [gSorted2, e]) nq ?_ (RpAll.of_ints _)
    rw [List.length_map] at zx ⊢
    rw [(sortI_perm ns).length_eq]
    exact zx
  | none =>
    cases e2 : tupsOf ds with
    | none => exact (RX.bad_elim h (by simp only [gSorted2, e, e2])).elim
    | some ts =>
      have z := tupsOf_eq e2
      subst z
      by_cases ok : okT ts = true
      case neg => exact (RX.bad_elim h (by simp only [gSorted2, e, e2, if_neg ok])).elim
      obtain ⟨a, b⟩ := tupsT_at S.fr r1
      have hl : xs.length = ts.length := by rw [← r1.len, List.length_map]
      refine .inr ⟨p, xs, kT F, rfl, .inl fp, fun x m => ?_, (okT_iff.mp ok).imp (fun z => by rw [hl]; exact z) (fun z x m => z _ (by rw [← a]; exact List.mem_map.mpr ⟨x, m, rfl⟩)), fun ys q sd pm nq => ?_⟩
      · exact b x m
      · have key : ys.map (kT F) = sortT ts := by
          refine sortedT_unique ?_ ?_ (sortT_sorted ts)
          · exact ((pm.map (kT F)).trans (by rw [a])).trans (sortT_perm ts).symm
          · rw [List.pairwise_map]
            exact List.Pairwise.imp (fun {x y} q => leT_iff.mpr q) sd
        have back : RpAll X.K F ((sortT ts).map tupD) ys := by
          rw [← key]
          refine tupsT_back fun v m => ?_
          obtain ⟨d, md, rd⟩ := rp_mem r1 v (pm.mem_iff.mp m)
          obtain ⟨t', _, rfl⟩ := List.mem_map.mp md
          rw [(tupT_at S.fr rd).1]
          exact rd
        refine po_new S h (by simp only [gSorted2, e, e2, if_pos ok]) nq ?_ back
        rw [pm.length_eq]
        exact zx⟩
end
end VS

set_option Elab.async false
set_option linter.all false
set_option maxRecDepth 100000
set_option maxHeartbeats 4000000
namespace VS
open PySem PySem.Spec PyProof.Rows L2
/-! ### sorted(set) of tuples of whole numbers of any lengths (none empty) -/
section
variable {P : Program} {w : World} {A : Around} {E : Value → Shared → Prop} {s : Shared}
/-- the rows of the set, by their addresses -/
theorem rows_of {L : List (Addr × List Int)} : ∀ vs : List Value, (∀ v ∈ vs, ∃ q ∈ L, v = Value.ref q.1) → ∃ L1 : List (Addr × List Int), vs = L1.map (fun q => Value.ref q.1) ∧ ∀ q ∈ L1, q ∈ L
  | [], _ => ⟨[], rfl, fun q hq => nomatch hq⟩
  | v :: vs, hv => by
    obtain ⟨q, hq, e⟩ := hv v List.mem_cons_self; obtain ⟨L1, e1, hs⟩ := rows_of vs fun u hu => hv u (List.mem_cons_of_mem _ hu)
    exact ⟨q :: L1, by rw [List.map_cons, e, e1], fun r hr => (List.mem_cons.mp hr).elim (fun z => z ▸ hq) (hs r)⟩
theorem sorted_setL {a : Addr} {L : List (Addr × List Int)} {es : Array (Int × Value)} {ep : Nat} {t : SetTable} {Q : Value → Shared → Prop} (R : SetTR P w s.heap a L es ep t) (hh : A.handled = none) (ne : L.length ≤ 1 ∨ ∀ p ∈ L, p.2 ≠ [])
    (hQ : ∀ s' p (out : Array Value) (c : Nat) (L' : List (Addr × List Int)), (∀ b o, s.heap.get? b = some o → s'.heap.get? b = some o) → s'.gens = s.gens → s'.os = s.os → s.heap.objs.size ≤ p →
      s'.heap.get? p = some (seqObj "list" out c) → out.toList = L'.map (fun q => Value.ref q.1) → (∀ q ∈ L', q ∈ L) → (out.toList).Perm (L.map fun q => Value.ref q.1) → L'.Pairwise (fun q r => HT.lexLt r.2 q.2 = false) → Q (.ref p) s') :
    wpAny (model P w) A (call (.builtin "sorted") [.ref a]) Q E s := by
  obtain ⟨o, ho, hex, hd⟩ := R.ob; have hsz := R.size; have hfew := R.few
  refine Calls.call_function_entry kind_sorted plain_sorted entry_sorted (args_sorted1 _) ?_; unfold Builtin.«sorted»
  refine wpAny_bind (m := checkCount "sorted" 1 1 _) (wpAny_pure (wpAny_bind (collect_set (A := A.in1) hh ⟨o, ho, hex.1, hd⟩ R.fits (by unfold scanBound; omega) R.tab.ris R.led fun s1 vs k1 hz g1 o1 pm => ?_)))
  have hes : es.toList.map (·.2) = L.map fun q => Value.ref q.1 := by rw [R.rows]; unfold rowsOf; rw [List.map_map]; rfl
  rw [hes] at pm
  have hvl : vs.length < 64 := by rw [pm.length_eq, List.length_map]; exact hfew
  have hz2 : vs.length ≤ sizeLine := by rw [sizeLine_eq]; omega
  refine wpAny_bind (wpAny_newList ?_ hz2)
  have hoL : (s1.heap.push (seqObj "list" vs.toArray 0)).get? s1.heap.objs.size = some (seqObj "list" vs.toArray 0) := Heap.get?_push_size _ rfl
  have tk : ∀ q ∈ L, TS.TupInts (s1.heap.push (seqObj "list" vs.toArray 0)) (.ref q.1) q.2 := fun q hq => tupInts_of (P := P) (w := w) (isT_keep (R.tup q hq) fun b u e => Heap.get?_push_of_some _ (k1 b u e))
  have kk : ∀ q ∈ L, TS.intsOf (s1.heap.push (seqObj "list" vs.toArray 0)) (.ref q.1) = q.2 := fun q hq => (tk q hq).ints
  have hp : ∀ v ∈ vs, TS.TupInts (s1.heap.push (seqObj "list" vs.toArray 0)) v (TS.intsOf (s1.heap.push (seqObj "list" vs.toArray 0)) v) := fun v hv => by
    obtain ⟨q, hq, e⟩ := List.mem_map.mp (pm.mem_iff.mp hv)
    rw [← e, kk q hq]; exact tk q hq
  have hp2 : vs.length ≤ 1 ∨ ∀ v ∈ vs, TS.intsOf (s1.heap.push (seqObj "list" vs.toArray 0)) v ≠ [] := ne.imp (fun z => by rw [pm.length_eq, List.length_map]; exact z) fun z v hv => by
    obtain ⟨q, hq, e⟩ := List.mem_map.mp (pm.mem_iff.mp hv)
    rw [← e, kk q hq]; exact z q hq
  refine wpAny_bind (wpAny_holding (wpAny_call_entry slot_list_sort ⟨_, hoL, rfl⟩ entry_list_sort (SrtO.list_sort_ord (s := { s1 with heap := s1.heap.push (seqObj "list" vs.toArray 0) }) (NtL.swo_lexL (TS.intsOf (s1.heap.push (seqObj "list" vs.toArray 0)))) hoL hz2
    (fun h2 => tups_sortable h2 hp hp2 fun o e => ?_) fun out hs hb => ⟨_, rfl, ?_⟩) (args_list_sort _)))
  · have e' : some o = some (seqObj "list" vs.toArray 0) := e.symm.trans hoL
    cases e'
    intro c; exact absurd (Value.type.inj c) (by decide)
  · obtain ⟨c, hc⟩ := sortedHeap_at (vs := vs) (out := out.toArray) hoL
    have po : out.Perm (L.map fun q => Value.ref q.1) := hb.perm.trans pm
    obtain ⟨L', e', hs'⟩ := rows_of (L := L) out fun v hv => by
      obtain ⟨q, hq, e⟩ := List.mem_map.mp (po.mem_iff.mp hv)
      exact ⟨q, hq, e.symm⟩
    have pw : L'.Pairwise (fun q r => HT.lexLt r.2 q.2 = false) := by
      have hs2 : out.Pairwise fun x y => HT.lexLt (TS.intsOf (s1.heap.push (seqObj "list" vs.toArray 0)) y) (TS.intsOf (s1.heap.push (seqObj "list" vs.toArray 0)) x) = false := hs
      rw [e'] at hs2
      refine List.Pairwise.imp_of_mem (fun {q r} hq hr hle => ?_) (List.pairwise_map.mp hs2)
      rw [← kk q (hs' q hq), ← kk r (hs' r hr)]; exact hle
    refine wpAny_pure ⟨_, rfl, hQ _ s1.heap.objs.size out.toArray c L' (fun b u e => ?_) g1 o1 hz hc (by rw [List.toList_toArray]; exact e') hs' (by rw [List.toList_toArray]; exact po) pw⟩
    have hlt := Heap.lt_size (k1 b u e)
    show (sortedHeap (s1.heap.push (seqObj "list" vs.toArray 0)) s1.heap.objs.size vs out.toArray).get? b = some u
    rw [sortedHeap_old (Nat.ne_of_lt hlt) (by rw [size_push']; exact Nat.lt_succ_of_lt hlt)]; exact Heap.get?_push_of_some _ (k1 b u e)
end
end VS
namespace VS
open PySem PySem.Spec PyProof.Rows L2
theorem one_of {L : List (Addr × List Int)} (nd : (L.map (·.2)).Nodup) (h : ∀ p ∈ L, ∀ q ∈ L, p.2 = q.2) : L.length ≤ 1 := by
  match L, nd with
  | [], _ => simp
  | [_], _ => simp
  | a :: b :: _, nd =>
    have := (List.nodup_cons.mp nd).1
    exact absurd (h a (by simp) b (by simp)) fun e => this (List.mem_cons.mpr (.inl e))
def rSortedSL (K : PySem.W.Frag) (P : Program) (w : World) : List V → Hp → VK → Prop := fun vs H Q => ∃ (a : Addr) (L : List (Addr × List Int)), vs = [V.ref a] ∧ H a = some (SetTO P w a L) ∧ (∀ p ∈ L, SqT K H p.1 (p.2.map V.int)) ∧ ((∀ p ∈ L, ∀ q ∈ L, p.2 = q.2) ∨ ∀ p ∈ L, p.2 ≠ []) ∧
  ∀ (L' : List (Addr × List Int)) (p : Addr), (∀ q ∈ L', q ∈ L) → (L'.map (·.2)).Perm (L.map (·.2)) → (L'.map (·.2)).Nodup → L'.length < 64 → (L'.map (·.2)).Pairwise (fun q r => leT q r = true) → H p = none → Q (.ref p) (upd H p (.lst (L'.map fun q => V.ref q.1)))
section
variable {X : Cx}
theorem cr_sortedSL (hc : X.calm = true) : CallR X (.builtin "sorted") (rSortedSL X.K X.prog X.w) := by
  intro pins s σ H vs us Q I r h
  obtain ⟨a, L, rfl, ha, hk, hne, q⟩ := h
  have R0 : SetT0 X.prog X.w s.heap a L := (I.hok a _ ha).1
  obtain ⟨es, ep, t, R⟩ := R0.full fun p hp => I.isT (hk p hp)
  rw [Vals.ref1 r]
  have kk : ∀ q ∈ L, TS.intsOf s.heap (.ref q.1) = q.2 := fun q hq => (tupInts_of (P := X.prog) (w := X.w) (R.tup q hq)).ints
  refine sorted_setL R (I.ok.hd hc) (hne.imp (one_of R.nd) id) fun s' p out c L' k g o hp hg hout hs pm pw => ?_
  have hl : L'.length = L.length := by
    have := pm.length_eq
    rw [hout, List.length_map, List.length_map] at this
    exact this
  have p2 : (L'.map (·.2)).Perm (L.map (·.2)) := by
    rw [hout] at pm
    have := pm.map (TS.intsOf s.heap)
    rw [List.map_map, List.map_map] at this
    have e1 : L'.map (TS.intsOf s.heap ∘ fun q => Value.ref q.1) = L'.map (·.2) := List.map_congr_left fun q hq => kk q (hs q hq)
    have e2 : L.map (TS.intsOf s.heap ∘ fun q => Value.ref q.1) = L.map (·.2) := List.map_congr_left fun q hq => kk q hq
    rw [e1, e2] at this
    exact this
  have hfew : L'.length < 64 := by rw [hl]; exact R.few
  have hlen : (L'.map fun q => V.ref q.1).length ≤ sizeLine := by rw [List.length_map, sizeLine_eq]; omega
  have hn : H p = none := I.hok.fresh hp
  have hv : Vals (L'.map fun q => V.ref q.1) out.toList := by rw [hout]; exact vals_of_refs L'
  have J : Inv X pins σ (upd H p (.lst (L'.map fun q => V.ref q.1))) { s with heap := s'.heap, gens := s'.gens, drawn := s'.drawn, toks := s'.toks } :=
    I.call (ch := []) (Un.laid k hp hn) (I.hok.laid k hp ⟨hlen, out.toList, c, hv, hg⟩) (by rw [g]; exact I.bare) (fun _ z => nomatch z)
  have e : s' = { s with heap := s'.heap, gens := s'.gens, drawn := s'.drawn, toks := s'.toks } := by
    cases s'; cases s; cases o; rfl
  rw [e]
  refine ⟨.ref p, _, J, rfl, q L' p hs p2 (p2.nodup_iff.mpr R.nd) hfew ?_ hn⟩
  rw [List.pairwise_map]
  exact pw.imp fun h => leT_iff.mpr h
end
/-! ### .. as one expression -/
def dedT : List (List Int) → List (List Int)
  | [] => []
  | t :: ts => if t ∈ ts then dedT ts else t :: dedT ts
theorem dedT_mem : ∀ {ts : List (List Int)} {t : List Int}, t ∈ dedT ts ↔ t ∈ ts
  | [], t => Iff.rfl
  | u :: ts, t => by
    unfold dedT
    by_cases h : u ∈ ts
    · rw [if_pos h, dedT_mem, List.mem_cons]
      exact ⟨Or.inr, fun z => z.elim (fun e => e ▸ h) id⟩
    · rw [if_neg h, List.mem_cons, List.mem_cons, dedT_mem]
theorem dedT_nodup : ∀ (ts : List (List Int)), (dedT ts).Nodup
  | [] => List.Pairwise.nil
  | u :: ts => by
    unfold dedT
    by_cases h : u ∈ ts
    · rw [if_pos h]; exact dedT_nodup ts
    · rw [if_neg h]
      exact List.nodup_cons.mpr ⟨fun z => h (dedT_mem.mp z), dedT_nodup ts⟩
theorem eq_one {α : Type} {l : List α} {a b : α} (h : l.length ≤ 1) (ha : a ∈ l) (hb : b ∈ l) : a = b := by
  match l, h with
  | [], _ => cases ha
  | [x], _ => rw [List.mem_singleton.mp ha, List.mem_singleton.mp hb]
  | _ :: _ :: _, h => simp at h
def gSortSet : D → Res (List D)
  | .list ds => match tupsOf ds with
    | some ts => if ts.length < 64 ∧ okT (dedT ts) = true then .ok ((sortT (dedT ts)).map tupD) else .bad
    | none => .bad
  | _ => .bad
def adV : V → Addr
  | .ref t => t
  | _ => 0
section
variable {X : Cx} {C : SC} {B : Bs} {a : Expr} {pos p p2 p3 : Pos} {ma : M (M D)}
theorem m_sortSetO {k : Nat} (c : Ok X C k) (hm : X.mg "sorted" = none) (hm2 : X.mg "set" = none) (ha : PE X a (tL X.K C ma)) (hg : Gl X "sorted" := by rfl) (hg2 : Gl X "set" := by rfl)
    (he2 : starEach [a] X.env = (false, eval a X.env) :: starEach [] X.env := by rfl) (hpl2 : (backTo p3 (starEach [] X.env)).any (·.1) = false := by rfl)
    (he : starEach [.Call (.Name "set" p2) [a] [] p3] X.env = (false, eval (.Call (.Name "set" p2) [a] [] p3) X.env) :: starEach [] X.env := by rfl) (hpl : (backTo pos (starEach [] X.env)).any (·.1) = false := by rfl) :
    PE X (.Call (.Name "sorted" p) [.Call (.Name "set" p2) [a] [] p3] [] pos) (tO X.K C (e1 gSortSet ma)) :=
  pe_imp (pe_callB (cr_sortedSL c.calm) hg hm (by decide +kernel) (pa_cons (pe_callTy (cr_setOfT c.calm (by have := c.units65; omega)) hg2 hm2 (by decide +kernel) (pa_cons ha pa_nil he2) (by decide) (by decide) he2 hpl2) pa_nil he) (by decide) (by decide) he hpl) fun σ H Q ⟨B, F, ρ, S, q⟩ => by
    refine tcb1 (tcb1 ?_)
    refine tL.of S q.bind fun l ρ1 h1 v F1 H1 s1 S1 r1 => ?_
    obtain ⟨d, rd, h2⟩ := late_step S1 r1 h1
    cases d <;> try exact (RX.bad_elim (show RX C B _ (M.lift _ ρ1) from h2) rfl).elim
    rename_i ds
    obtain ⟨pp, xs, rfl, fp, zx, r⟩ := rpv_lst S1.fr rd
    cases e : tupsOf ds with
    | none => exact (RX.bad_elim (show RX C B _ (M.lift (gSortSet (.list ds)) ρ1) from h2) (by simp only [gSortSet, e])).elim
    | some ts =>
      have z := tupsOf_eq e
      subst z
      by_cases hcd : ts.length < 64 ∧ okT (dedT ts) = true
      · obtain ⟨h64, ok⟩ := id hcd
        obtain ⟨e1, b⟩ := tupsT_at S1.fr r
        have hx : xs = (xs.map fun x => (adV x, kT F1 x)).map fun p => V.ref p.1 := by
          rw [List.map_map]
          conv => lhs; rw [← List.map_id xs]
          refine List.map_congr_left fun x m => ?_
          obtain ⟨t, rfl, _⟩ := b x m
          rfl
        have hl : xs.length = ts.length := by rw [← r.len, List.length_map]
        refine ⟨pp, xs.map fun x => (adV x, kT F1 x), rfl, .inl (by rw [← hx]; exact fp), fun p hp => ?_, by rw [List.length_map, hl]; exact h64, fun sa L hsa hL1 hL2 => ?_⟩
        · obtain ⟨x, m, rfl⟩ := List.mem_map.mp hp
          obtain ⟨t, rfl, st⟩ := b x m
          exact st
        · have S2 := S1.alloc0 (o := SetTO X.prog X.w sa L) hsa
          have inx : ∀ q ∈ L, ∃ x ∈ xs, q = (adV x, kT F1 x) := fun q hq => by
            obtain ⟨x, m, e⟩ := List.mem_map.mp (hL1 q hq)
            exact ⟨x, m, e.symm⟩
          have inT : ∀ q ∈ L, q.2 ∈ dedT ts := fun q hq => by
            obtain ⟨x, m, rfl⟩ := inx q hq
            rw [dedT_mem, ← e1]; exact List.mem_map.mpr ⟨_, m, rfl⟩
          refine ⟨sa, L, rfl, upd_same, fun q hq => ?_, (okT_iff.mp ok).imp (fun z p hp q hq => eq_one z (inT p hp) (inT q hq)) (fun z p hp => z _ (inT p hp)), fun L' np hs pm nd hf pw nn => ?_⟩
          · obtain ⟨x, m, rfl⟩ := inx q hq
            obtain ⟨t, rfl, st⟩ := b x m
            obtain ⟨_, b2⟩ := tupsT_at S2.fr r
            obtain ⟨t', et, st'⟩ := b2 _ m
            cases et
            exact st'
          · have key : L'.map (·.2) = sortT (dedT ts) := by
              refine sortedT_unique ((List.perm_ext_iff_of_nodup nd (((sortT_perm (dedT ts)).nodup_iff).mpr (dedT_nodup ts))).mpr fun u => ?_) pw (sortT_sorted _)
              rw [(sortT_perm (dedT ts)).mem_iff, dedT_mem, pm.mem_iff, ← e1]
              constructor
              · intro hu
                obtain ⟨q, hq, rfl⟩ := List.mem_map.mp hu
                obtain ⟨x, m, rfl⟩ := inx q hq
                exact List.mem_map.mpr ⟨x, m, rfl⟩
              · intro hu
                obtain ⟨x, m, rfl⟩ := List.mem_map.mp hu
                exact hL2 _ (List.mem_map.mpr ⟨x, m, rfl⟩)
            have back : ∀ M' : List (Addr × List Int), (∀ q ∈ M', q ∈ L) → RpAll X.K F1 ((M'.map (·.2)).map tupD) (M'.map fun q => V.ref q.1) := by
              intro M'
              induction M' with
              | nil => intro _; exact rfl
              | cons q M' ih =>
                intro hM
                obtain ⟨x, m, rfl⟩ := inx q (hM q List.mem_cons_self)
                refine ⟨_, _, rfl, ?_, ih fun r hr => hM r (List.mem_cons_of_mem _ hr)⟩
                obtain ⟨d', md, rd'⟩ := rp_mem r x m
                obtain ⟨t', _, rfl⟩ := List.mem_map.mp md
                obtain ⟨t, rfl, _⟩ := b x m
                show Rp X.K F1 (tupD (kT F1 (.ref t))) (.ref t)
                rw [(tupT_at S1.fr rd').1]
                exact rd'
            have bk := back L' hs
            rw [key] at bk
            exact po_new (r := gSortSet (.list (ts.map tupD))) S2 (h2.imp fun _ _ q => q.mono s1) (by simp only [gSortSet, e, if_pos hcd]) nn (by rw [List.length_map, sizeLine_eq]; omega) bk
      · exact (RX.bad_elim (show RX C B _ (M.lift (gSortSet (.list _)) ρ1) from h2) (by simp only [gSortSet, e, if_neg hcd])).elim
end
end VS

set_option Elab.async false
set_option linter.all false
set_option maxRecDepth 100000
set_option maxHeartbeats 4000000
namespace VS
open PySem PySem.Spec PyProof.Rows L2
/-! ### list(d), sorted(d), d with tuples for keys -/
def keyDT (k : List Key) : D := .tuple (k.map keyD)
def keysD (kvs : List (List Key × D)) : List D := kvs.map fun p => keyDT p.1
theorem rp_key {K : PySem.W.Frag} {F : Hp} : ∀ k : Key, Rp K F (keyD k) (kV k)
  | .inl _ => rfl
  | .inr _ => rfl
theorem rp_keys {K : PySem.W.Frag} {F : Hp} : ∀ k : List Key, RpAll K F (k.map keyD) (k.map kV)
  | [] => rfl
  | x :: k => ⟨_, _, rfl, rp_key x, rp_keys k⟩
open Classical in
/-- tuples of the heap are taken up into what is frozen -/
theorem SR.takeT {K : PySem.W.Frag} {C : SC} {B : Bs} {F H : Hp} {σ : L2.St} {ρ : En} (S : SR K C B F σ H ρ) (bs : List Addr) (hb : ∀ b ∈ bs, ∃ xs, H b = some (.tup xs)) :
    ∃ F', Same F F' ∧ SR K C B F' σ H ρ ∧ ∀ b ∈ bs, F' b = H b := by
  refine ⟨fun a => if a ∈ bs then H a else F a, fun a u e => ?_, S.grow (Same.refl _) (fun a u e => ?_) (fun a u e => ?_) (fun q u hq nt n => ?_), fun b m => if_pos m⟩
  · show (if a ∈ bs then H a else F a) = some u
    split
    · exact S.fr _ _ e
    · exact e
  · show (if a ∈ bs then H a else F a) = some u
    split
    · exact S.fr _ _ e
    · exact e
  · have e' : (if a ∈ bs then H a else F a) = some u := e
    split at e'
    · exact e'
    · exact S.fr _ _ e'
  · show (if q ∈ bs then H q else F q) = none
    split
    · rename_i m
      obtain ⟨xs, hx⟩ := hb q m
      rw [hq] at hx
      exact absurd (Option.some.inj hx) (nt xs)
    · exact n
theorem keys_back {K : PySem.W.Frag} {F : Hp} : ∀ {ks : List (List Key)} {bs : List Addr}, (∀ k ∈ ks, k.length ≤ sizeLine) → Paired (fun k b => F b = some (.tup (k.map kV))) ks bs → RpAll K F (ks.map keyDT) (bs.map V.ref)
  | [], _, _, .nil => rfl
  | k :: ks, _, h, .cons e r => ⟨_, _, rfl, ⟨_, _, rfl, e, by rw [List.length_map]; exact h k List.mem_cons_self, rp_keys k⟩, keys_back (fun k m => h k (List.mem_cons_of_mem _ m)) r⟩
theorem paired_imp {α β : Type} {R S : α → β → Prop} : ∀ {l : List α} {m : List β}, Paired R l m → (∀ a b, b ∈ m → R a b → S a b) → Paired S l m
  | _, _, .nil, _ => .nil
  | _, _, .cons e r, h => .cons (h _ _ List.mem_cons_self e) (paired_imp r fun a b m => h a b (List.mem_cons_of_mem _ m))
theorem paired_map {α β γ : Type} {R : γ → β → Prop} {f : α → γ} : ∀ {l : List α} {m : List β}, Paired (fun a b => R (f a) b) l m → Paired R (l.map f) m
  | _, _, .nil => .nil
  | _, _, .cons e r => .cons e (paired_map r)
theorem paired_mem {α β : Type} {R : α → β → Prop} : ∀ {l : List α} {m : List β}, Paired R l m → ∀ b ∈ m, ∃ a ∈ l, R a b
  | _, _, .nil, b, h => nomatch h
  | _, _, .cons e r, b, h => by
    rcases List.mem_cons.mp h with rfl | h
    · exact ⟨_, List.mem_cons_self, e⟩
    · obtain ⟨a, m, q⟩ := paired_mem r b h
      exact ⟨a, List.mem_cons_of_mem _ m, q⟩
def shortK (kvs : List (List Key × D)) : Bool := decide (kvs.length ≤ sizeLine) && kvs.all fun p => decide (p.1.length ≤ sizeLine)
def listDT (kvs : List (List Key × D)) : Res (List D) := if shortK kvs = true then .ok (keysD kvs) else .bad
def eListD (i : Nat) : M (List D) := fun ρ => match ρ[i]? with
  | some (.dT kvs) => (listDT kvs).bind fun ds => .ok (ds, ρ)
  | _ => .bad
section
variable {X : Cx} {C : SC} {B : Bs} {x : Str} {pos p2 : Pos}
theorem m_listD (i : Nat) (hc : X.calm = true) (hm : X.mg "list" = none) (hN : X.N[i]? = some x := by rfl) (hv : Vis X.env.scope x := by first | exact Or.inl rfl | exact Or.inr (Or.inl rfl) | exact Or.inr (Or.inr rfl)) (hd : (x == ("__debug__" : Str)) = false := by decide)
    (hcd : (x == ("__classdict__" : Str)) = false := by decide) (hg : Gl X "list" := by rfl) (he : starEach [.Name x p2] X.env = (false, eval (.Name x p2) X.env) :: starEach [] X.env := by rfl) (hpl : (backTo pos (starEach [] X.env)).any (·.1) = false := by rfl) {p : Pos} :
    PE X (.Call (.Name "list" p) [.Name x p2] [] pos) (tO X.K C (eListD i)) :=
  pe_imp (pe_callTy (call_list_dT hc) hg hm (by decide +kernel) (pa_cons (pe_var hN hv hd hcd) pa_nil he) (by decide) (by decide) he hpl) fun σ H Q ⟨B, F, ρ, S, q⟩ => by
    unfold eListD at q
    cases e : ρ[i]? with
    | none => rw [e] at q; exact q.elim
    | some s =>
      rw [e] at q
      cases s <;> try exact q.elim
      rename_i kvs
      simp only at q
      have hlt := (List.getElem?_eq_some_iff.mp e).1
      have hl := S.len
      have ev : σ[i]? = some (σ[i]'(by omega)) := by simp
      obtain ⟨pp, xs, ex, hp, kv, at_⟩ := S.sl i _ _ e ev
      rw [ex] at ev
      by_cases sk : shortK kvs = true
      · refine ⟨_, ev, pp, xs, rfl, .inl hp, fun np bs nn hk => ?_⟩
        have hk2 : ∀ b ∈ bs, ∃ ys, H b = some (.tup ys) := fun b m => by
          obtain ⟨a, _, e⟩ := paired_mem hk b m
          exact ⟨_, e⟩
        obtain ⟨F1, s1, S1, hF⟩ := S.takeT bs hk2
        unfold shortK at sk
        rw [Bool.and_eq_true, decide_eq_true_eq, List.all_eq_true] at sk
        have eq : xs.map (·.1) = kvs.map (·.1) := kv.1.symm
        have back : RpAll X.K F1 (keysD kvs) (bs.map V.ref) := by
          have h1 : Paired (fun k b => F1 b = some (.tup (k.map kV))) (xs.map (·.1)) bs := paired_map (paired_imp hk fun a b m e => by rw [hF b m]; exact e)
          rw [eq] at h1
          have h2 := keys_back (K := X.K) (fun k m => by
            obtain ⟨q, mq, rfl⟩ := List.mem_map.mp m
            exact of_decide_eq_true (sk.2 q mq)) h1
          rw [List.map_map] at h2
          exact h2
        have hlen : (bs.map V.ref).length ≤ sizeLine := by rw [← back.len]; unfold keysD; rw [List.length_map]; exact sk.1
        have q' : RX C B (PO X.K C B σ F Q) (M.lift (listDT kvs) ρ) := q
        have z : listDT kvs = .ok (keysD kvs) := if_pos (by unfold shortK; rw [Bool.and_eq_true, decide_eq_true_eq, List.all_eq_true]; exact sk)
        exact po_new S1 (q'.imp fun _ _ q => q.mono s1) z nn hlen back
      · have z : listDT kvs = .bad := if_neg sk
        rw [z] at q; exact q.elim
end
/-! ### sorted(d) -/
def rSortedDT (K : PySem.W.Frag) : List V → Hp → VK → Prop := fun vs H Q => ∃ (a : Addr) (kvs : List (List Key × V)) (ts : List (List Int)), vs = [V.ref a] ∧ Rd H a (.dT kvs) ∧ kvs.map (·.1) = ts.map (fun t => t.map Sum.inl) ∧ (ts.length ≤ 1 ∨ ∀ t ∈ ts, t ≠ []) ∧
  ∀ (bs : List Addr) (p : Addr) (us : List (List Int)), us.Perm ts → us.Pairwise (fun q r => leT q r = true) → Paired (fun (t : List Int) b => H b = some (.tup (t.map V.int))) us bs → H p = none → Q (.ref p) (upd H p (.lst (bs.map V.ref)))
theorem kV_ints (t : List Int) : (t.map Sum.inl).map kV = t.map V.int := by
  rw [List.map_map]; rfl
theorem paired_perm {α β : Type} {R : α → β → Prop} (f : β → α) : ∀ {m : List β}, (∀ b ∈ m, R (f b) b) → Paired R (m.map f) m
  | [], _ => .nil
  | b :: m, h => .cons (h b List.mem_cons_self) (paired_perm f fun c mc => h c (List.mem_cons_of_mem _ mc))
section
variable {X : Cx}
theorem cr_sortedDT (hc : X.calm = true) : CallR X (.builtin "sorted") (rSortedDT X.K) := by
  intro pins s σ H vs us Q I r h
  obtain ⟨d, kvs, ts, rfl, hd, hts, hne, q⟩ := h
  obtain ⟨u, rfl, rx⟩ := r.one
  cases rx
  obtain ⟨z, hs, ks, pr, o, es, ep, ho, hx, hdt, he, hn⟩ := (show ObjOk X.prog X.w H s.heap d (.dT kvs) from hd.ok I.hok)
  have l1 : es.size = ks.length := size_of_entries he
  have l2 : kvs.length = ks.length := Paired.length pr
  have l3 : kvs.length = ts.length := by
    have := congrArg List.length hts
    simpa using this
  have hsz : es.size ≤ sizeLine := by omega
  refine Calls.call_function_entry PyProof.Rows.kind_sorted PyProof.Rows.plain_sorted PyProof.Rows.entry_sorted (PyProof.Rows.args_sorted1 _) ?_
  unfold Builtin.«sorted»
  refine wpAny_bind (m := checkCount "sorted" 1 1 _) (wpAny_pure ?_)
  refine wpAny_bind (PySem.W.kdu_collect (A := X.A.in1) (kdl_raw hs hx hdt) (I.ok.hd hc) ho hsz fun h' tk acc hk it => ?_)
  have bsE : ∃ bs : List Addr, acc.toList = bs.map Value.ref ∧ Paired (fun k b => H b = some (.tup (k.map kV))) (kvs.map (·.1)) bs := by
    have pk0 : Paired (fun (k : List Key) b => H b = some (.tup (k.map kV))) (kvs.map (·.1)) (ks.map fun x => x.2.1) := paired_map (f := fun p : List Key × V => p.1) (isKeys_of pr)
    refine ⟨ks.map fun x => x.2.1, ?_, pk0⟩
    have hl : acc.toList.length = ks.length := by rw [Array.length_toList, it.1]; exact l1
    refine List.ext_getElem? fun j => ?_
    rw [List.getElem?_map, List.getElem?_map]
    cases hb : ks[j]? with
    | none =>
      rw [List.getElem?_eq_none (by rw [hl]; exact List.getElem?_eq_none_iff.mp hb)]; rfl
    | some b =>
      have hj : j < acc.toList.length := by rw [hl]; exact (List.getElem?_eq_some_iff.mp hb).1
      obtain ⟨en, hen, hv⟩ := it.2 j acc.toList[j] (by rw [← Array.getElem?_toList]; exact List.getElem?_eq_getElem hj)
      have qe := entry_at he j
      rw [hen, hb] at qe
      have e2 : en = entryOfKey (tupleKind (mixKind X.prog X.w)) b := Option.some.inj qe
      rw [List.getElem?_eq_getElem hj, hv, e2]; rfl
  obtain ⟨bs, ea, pk⟩ := bsE
  rw [hts] at pk
  have I1 : Inv X pins σ H { s with heap := h', toks := tk } := I.kept hk
  -- the tuples by their addresses
  have kb : ∀ b ∈ bs, ∃ t ∈ ts, H b = some (.tup (t.map V.int)) := fun b m => by
    obtain ⟨k, mk, e⟩ := paired_mem pk b m
    obtain ⟨t, mt, rfl⟩ := List.mem_map.mp mk
    exact ⟨t, mt, by rw [e, kV_ints]⟩
  let kv : Value → List Int := fun v => match v with
    | .ref b => kT H (.ref b)
    | _ => []
  have kv_at : ∀ b ∈ bs, ∀ t : List Int, H b = some (.tup (t.map V.int)) → kv (.ref b) = t := fun b m t e => by
    show kT H (.ref b) = t
    unfold kT
    simp only [e]
    rw [List.map_map]
    conv => rhs; rw [← List.map_id t]
    rfl
  have hal : acc.toList.length = bs.length := by rw [ea, List.length_map]
  have hbl : bs.length = ts.length := by
    have := Paired.length pk
    simpa using this.symm
  refine wpAny_bind (wpAny_newList ?_ (by rw [hal, hbl]; omega))
  have hoL : (h'.push (seqObj "list" acc.toList.toArray 0)).get? h'.objs.size = some (seqObj "list" acc.toList.toArray 0) := Heap.get?_push_size _ rfl
  show wpAny _ _ _ _ _ { s with heap := h'.push (seqObj "list" acc.toList.toArray 0), toks := tk }
  have hI2 : Inv X pins σ H { s with heap := h'.push (seqObj "list" acc.toList.toArray 0), toks := tk } := I1.kept fun b o e => Heap.get?_push_of_some _ e
  have tk1 : ∀ v ∈ acc.toList, TS.TupInts (h'.push (seqObj "list" acc.toList.toArray 0)) v (kv v) := fun v hv => by
    rw [ea] at hv
    obtain ⟨b, mb, rfl⟩ := List.mem_map.mp hv
    obtain ⟨t, _, e⟩ := kb b mb
    rw [kv_at b mb t e]
    exact tupI_raw hI2 (.of e)
  have ne2 : acc.toList.length ≤ 1 ∨ ∀ v ∈ acc.toList, kv v ≠ [] := hne.imp (fun z => by rw [hal, hbl]; exact z) fun z v hv => by
    rw [ea] at hv
    obtain ⟨b, mb, rfl⟩ := List.mem_map.mp hv
    obtain ⟨t, mt, e⟩ := kb b mb
    rw [kv_at b mb t e]
    exact z t mt
  refine wpAny_bind (wpAny_holding (wpAny_call_entry PyProof.Rows.slot_list_sort ⟨_, hoL, rfl⟩ PyProof.Rows.entry_list_sort
    (SrtO.list_sort_ord (s := { s with heap := h'.push (seqObj "list" acc.toList.toArray 0), toks := tk }) (NtL.swo_lexL kv) hoL (by rw [hal, hbl]; omega) (fun h2 => tups_sortable h2 tk1 ne2 fun o e => ?_) fun out g1 g2 => ⟨_, rfl, ?_⟩) (PyProof.Rows.args_list_sort _)))
  · have e' : some o = some (seqObj "list" acc.toList.toArray 0) := e.symm.trans hoL
    cases e'
    intro c
    exact absurd (Value.type.inj c) (by decide)
  · obtain ⟨e', he'⟩ := PyProof.Rows.sortedHeap_at (vs := acc.toList) (out := out.toArray) hoL
    have pm : out.Perm (bs.map Value.ref) := by rw [← ea]; exact g2.perm
    obtain ⟨cs, ec, hcs⟩ : ∃ cs : List Addr, out = cs.map Value.ref ∧ ∀ c ∈ cs, c ∈ bs := by
      have : ∀ l : List Value, (∀ v ∈ l, v ∈ bs.map Value.ref) → ∃ cs : List Addr, l = cs.map Value.ref ∧ ∀ c ∈ cs, c ∈ bs := by
        intro l
        induction l with
        | nil => exact fun _ => ⟨[], rfl, fun _ m => nomatch m⟩
        | cons v l ih =>
          intro h
          obtain ⟨b, mb, rfl⟩ := List.mem_map.mp (h v List.mem_cons_self)
          obtain ⟨cs, e, m⟩ := ih fun u hu => h u (List.mem_cons_of_mem _ hu)
          exact ⟨b :: cs, by rw [e]; rfl, fun c mc => (List.mem_cons.mp mc).elim (fun z => z ▸ mb) (m c)⟩
      exact this out fun v hv => pm.mem_iff.mp hv
    have pmk : (out.map kv).Perm ts := by
      refine (pm.map kv).trans ?_
      have : ∀ (l : List (List Int)) (m : List Addr), (∀ b ∈ m, b ∈ bs) → Paired (fun k b => H b = some (.tup (k.map kV))) (l.map fun t => t.map Sum.inl) m → (m.map Value.ref).map kv = l := by
        intro l
        induction l with
        | nil => intro m _ h; cases h; rfl
        | cons t l ih =>
          intro m hm h
          cases h with
          | cons e r =>
            rename_i b m
            rw [List.map_cons, List.map_cons, ih m (fun b mb => hm b (List.mem_cons_of_mem _ mb)) r, kv_at b (hm b List.mem_cons_self) t (by rw [e, kV_ints])]
      rw [this ts bs (fun _ m => m) pk]
    have pw : (out.map kv).Pairwise fun q r => leT q r = true := by
      rw [List.pairwise_map]
      exact List.Pairwise.imp (fun {x y} h => leT_iff.mpr h) g1
    have pc : Paired (fun (t : List Int) b => H b = some (.tup (t.map V.int))) (out.map kv) cs := by
      rw [ec, List.map_map]
      refine paired_perm _ fun c mc => ?_
      obtain ⟨t, _, e⟩ := kb c (hcs c mc)
      show H c = some (.tup ((kv (.ref c)).map V.int))
      rw [kv_at c (hcs c mc) t e, e]
    have hlen : (cs.map V.ref).length ≤ sizeLine := by
      have := pm.length_eq
      rw [ec, List.length_map, List.length_map] at this
      rw [List.length_map, this, hbl]; omega
    have hn' : H h'.objs.size = none := I1.hok.fresh (Nat.le_refl _)
    refine wpAny_pure ⟨_, rfl, .ref h'.objs.size, upd H h'.objs.size (.lst (cs.map V.ref)), I1.laid (t' := tk) (fun b u e => ?_) (Nat.le_refl _) ⟨hlen, out, e', by rw [ec]; exact vals_refs cs, he'⟩, rfl, q cs _ _ pmk pw pc hn'⟩
    have hlt := Heap.lt_size e
    rw [sortedHeap_old (Nat.ne_of_lt hlt) (by rw [size_push']; exact Nat.lt_succ_of_lt hlt)]
    exact Heap.get?_push_of_some _ e
end
def intsKs : List (List Key) → Option (List (List Int))
  | [] => some []
  | k :: r => match intsK k, intsKs r with
    | some t, some ts => some (t :: ts)
    | _, _ => none
theorem intsKs_eq : ∀ {ks : List (List Key)} {ts : List (List Int)}, intsKs ks = some ts → ks = ts.map fun t => t.map Sum.inl
  | [], ts, h => by cases h; rfl
  | k :: r, ts, h => by
    unfold intsKs at h
    cases e1 : intsK k with
    | none => rw [e1] at h; cases h
    | some t =>
      cases e2 : intsKs r with
      | none => rw [e1, e2] at h; cases h
      | some ts' =>
        rw [e1, e2] at h
        cases h
        rw [intsK_eq e1, intsKs_eq e2]; rfl
def sortTR (kvs : List (List Key × D)) : Res (List D) := match intsKs (kvs.map (·.1)) with
  | some ts => if okT ts = true ∧ shortK kvs = true then .ok ((sortT ts).map tupD) else .bad
  | none => .bad
def eSortT (i : Nat) : M (List D) := fun ρ => match ρ[i]? with
  | some (.dT kvs) => (sortTR kvs).bind fun ds => .ok (ds, ρ)
  | _ => .bad
section
variable {X : Cx} {C : SC} {B : Bs} {x : Str} {pos p2 : Pos}
theorem tups_back {K : PySem.W.Frag} {F : Hp} : ∀ {ts : List (List Int)} {bs : List Addr}, (∀ t ∈ ts, t.length ≤ sizeLine) → Paired (fun (t : List Int) b => F b = some (.tup (t.map V.int))) ts bs → RpAll K F (ts.map tupD) (bs.map V.ref)
  | [], _, _, .nil => rfl
  | t :: ts, _, h, .cons e r => ⟨_, _, rfl, ⟨_, _, rfl, e, by rw [List.length_map]; exact h t List.mem_cons_self, RpAll.of_ints t⟩, tups_back (fun k m => h k (List.mem_cons_of_mem _ m)) r⟩
theorem m_sortT (i : Nat) (hc : X.calm = true) (hm : X.mg "sorted" = none) (hN : X.N[i]? = some x := by rfl) (hv : Vis X.env.scope x := by first | exact Or.inl rfl | exact Or.inr (Or.inl rfl) | exact Or.inr (Or.inr rfl)) (hd : (x == ("__debug__" : Str)) = false := by decide)
    (hcd : (x == ("__classdict__" : Str)) = false := by decide) (hg : Gl X "sorted" := by rfl) (he : starEach [.Name x p2] X.env = (false, eval (.Name x p2) X.env) :: starEach [] X.env := by rfl) (hpl : (backTo pos (starEach [] X.env)).any (·.1) = false := by rfl) {p : Pos} :
    PE X (.Call (.Name "sorted" p) [.Name x p2] [] pos) (tO X.K C (eSortT i)) :=
  pe_imp (pe_callB (cr_sortedDT hc) hg hm (by decide +kernel) (pa_cons (pe_var hN hv hd hcd) pa_nil he) (by decide) (by decide) he hpl) fun σ H Q ⟨B, F, ρ, S, q⟩ => by
    unfold eSortT at q
    cases e : ρ[i]? with
    | none => rw [e] at q; exact q.elim
    | some s =>
      rw [e] at q
      cases s <;> try exact q.elim
      rename_i kvs
      simp only at q
      have hlt := (List.getElem?_eq_some_iff.mp e).1
      have hl := S.len
      have ev : σ[i]? = some (σ[i]'(by omega)) := by simp
      obtain ⟨pp, xs, ex, hp, kv, at_⟩ := S.sl i _ _ e ev
      rw [ex] at ev
      cases ek : intsKs (kvs.map (·.1)) with
      | none =>
        have z : sortTR kvs = .bad := by simp only [sortTR, ek]
        rw [z] at q; exact q.elim
      | some ts =>
        by_cases ok : okT ts = true ∧ shortK kvs = true
        · refine ⟨_, ev, pp, xs, ts, rfl, .inl hp, by rw [← kv.1]; exact intsKs_eq ek, okT_iff.mp ok.1, fun bs np us pm pw pc nn => ?_⟩
          have eu : us = sortT ts := sortedT_unique (pm.trans (sortT_perm ts).symm) pw (sortT_sorted ts)
          subst eu
          obtain ⟨F1, s1, S1, hF⟩ := S.takeT bs fun b m => by
            obtain ⟨a, _, e⟩ := paired_mem pc b m
            exact ⟨_, e⟩
          have sk := ok.2
          unfold shortK at sk
          rw [Bool.and_eq_true, decide_eq_true_eq, List.all_eq_true] at sk
          have ll : kvs.length = ts.length := by
            have := congrArg List.length (intsKs_eq ek)
            simpa using this
          have back : RpAll X.K F1 ((sortT ts).map tupD) (bs.map V.ref) := tups_back (fun t m => by
            have m2 := (sortT_perm ts).mem_iff.mp m
            have m3 : t.map Sum.inl ∈ kvs.map (·.1) := by rw [intsKs_eq ek]; exact List.mem_map.mpr ⟨t, m2, rfl⟩
            obtain ⟨q, mq, e⟩ := List.mem_map.mp m3
            have := of_decide_eq_true (sk.2 q mq)
            rw [e, List.length_map] at this
            exact this) (paired_imp pc fun a b m e => by rw [hF b m]; exact e)
          have hlen : (bs.map V.ref).length ≤ sizeLine := by
            rw [← back.len, List.length_map, (sortT_perm ts).length_eq, ← ll]; exact sk.1
          have q' : RX C B (PO X.K C B σ F Q) (M.lift (sortTR kvs) ρ) := q
          have z : sortTR kvs = .ok ((sortT ts).map tupD) := by simp only [sortTR, ek, if_pos ok]
          exact po_new S1 (q'.imp fun _ _ q => q.mono s1) z nn hlen back
        · have z : sortTR kvs = .bad := by simp only [sortTR, ek, if_neg ok]
          rw [z] at q; exact q.elim
end
end VS

set_option Elab.async false
set_option linter.all false
set_option maxRecDepth 100000
set_option maxHeartbeats 4000000
namespace VS
open PySem PySem.Spec PyProof.Rows L2
/-! ### raise of an own class of refusals -/
def XcF (K : PySem.W.Frag) (mg : Str → Option Value) (x : Str) : Prop := ∃ Cc : Addr, mg x = some (.ref Cc) ∧ PySem.W.excIn K Cc [.type "ValueError", .type "Exception", .type "BaseException", .type "object"] "ValueError.__new__" = true ∧ PySem.W.keepIn K (.ref Cc) = true ∧ PySem.W.subIn K (.ref Cc) (.type "BaseException") = some true ∧ PySem.W.typeIn K (.ref Cc) = some (.type "type")
def sExc (c : Str) : M Fl := fun _ => .exc c
section
variable {P : Program} {w : World} {K : PySem.W.Frag} {mg : Str → Option Value} {base : Heap} {N : List Str} {q x : Str} {st : Stmt} {fa : Addr} {cdv : Value} {A : Around} {outer : List PySem.Env} {s : Shared} {H : Hp} {E : XK} {rf : Option Addr}
theorem ms_raiseX {z : Str} {jj : Nat} {p p2 p3 pos : Pos} (T : XcF K mg x) (hg : Gl (bodyX P w K mg base N q st fa cdv A outer s H E) x := by rfl) (hdb : (x == ("__debug__" : Str)) = false := by decide) :
    PS (bodyX P w K mg base N q st fa cdv A outer s H E) (.Raise (some (.Call (.Name x p) [.Constant (.str z) jj p3] [] p2)) none pos) (tS K (bodyC rf mg E) (sExc x)) :=
  let ⟨_, g, e, k, b, t⟩ := T
  ms_raise (X := bodyX P w K mg base N q st fa cdv A outer s H E) (C := bodyC rf mg E) rfl body_takes (fun σ H' h => h _ g) PySem.F.excBase_ValueError e g k (raises_own b t) hg hdb
end
/-! ### sorted(xs, key=abs) -/
section
variable {X : Cx} {pins : List (Addr × Obj)} {σ : L2.St} {H : Hp} {s : Shared}
theorem obj_there {P : Program} {w : World} {H : Hp} {h : Heap} {a : Addr} {o : HO} (x : ObjOk P w H h a o) : ∃ u, h.get? a = some u := by
  match o, x with
  | .lst _, ⟨_, _, _, _, e⟩ => exact ⟨_, e⟩
  | .tup _, ⟨_, _, _, u, e, _⟩ => exact ⟨u, e⟩
  | .dK _, ⟨_, _, _, _, u, _, _, e, _⟩ => exact ⟨u, e⟩
  | .dT _, ⟨_, _, _, _, u, _, _, e, _⟩ => exact ⟨u, e⟩
  | .set _ _, x => obtain ⟨u, _, _, _, e, _⟩ := x; exact ⟨u, e⟩
  | .ins _ _ _, ⟨_, _, _, e, _⟩ => exact ⟨_, e⟩
  | .own _, x => exact x
  | .xd _, ⟨_, ⟨u, _, _, e, _⟩, _⟩ => exact ⟨u, e⟩
  | .rng _ _, ⟨_, _, _, e⟩ => exact ⟨_, e⟩
  | .frz _ _, ⟨e, _⟩ => exact ⟨_, e⟩
  | .tbl _, x => exact ⟨_, x⟩
  | .met _ _, x => exact ⟨_, x⟩
  | .ext _, ⟨_, e, _⟩ => exact e
theorem hnone {D : Addr} (I : Inv X pins σ H s) (hD : s.heap.get? D = none) : H D = none := by
  cases e : H D with
  | none => rfl
  | some o =>
    obtain ⟨u, hu⟩ := obj_there (I.hok D o e)
    rw [hD] at hu; cases hu
theorem inv_laid2 {D : Addr} {o : HO} {h' : Heap} {tk : Nat} (I : Inv X pins σ H s) (keep : ∀ b u, b ≠ X.env.locals → s.heap.get? b = some u → h'.get? b = some u) (ns : ∀ m, s.heap.Ns X.env.locals m → h'.Ns X.env.locals m) (hD : s.heap.get? D = none)
    (new : ObjOk X.prog X.w (upd H D o) h' D o) : Inv X pins σ (upd H D o) { s with heap := h', toks := tk } := by
  have hn : H D = none := hnone I hD
  have nD : ∀ b u, s.heap.get? b = some u → b ≠ D := fun b u e z => by
    subst z; rw [hD] at e; cases e
  have hL : ∀ b u, H b = some u → b ≠ X.env.locals := fun b u e z => by
    subst z; rw [I.free] at e; cases e
  have sm : ∀ b u, H b = some u → upd H D o b = some u := fun b u e => by rw [upd_ne (ne_of_none e hn)]; exact e
  refine I.step (g' := s.gens) (d' := s.drawn) (ch := []) (fun b hb => nomatch hb) (fun b u hb _ _ e _ => keep b u hb e) (fun b u hb _ _ e _ => ⟨u.slots, keep b u hb e⟩) (fun b u _ e n => by rw [upd_ne (nD b u e)]; exact n) (fun b u _ e => ?_)
    (fun b xs e => sm _ _ e) (fun b u v e => sm _ _ e) (fun b ps e => ⟨#[], by rw [sm _ _ e]; simp⟩) ns (fun b u e => ?_) I.bare
  · by_cases hb : b = X.env.locals
    · subst hb
      obtain ⟨m, hm, _⟩ := I.loc
      obtain ⟨o', _, _, ho', _⟩ := ns m hm
      exact ⟨o', ho'⟩
    · exact ⟨u, keep b u hb e⟩
  · by_cases hb : b = D
    · subst hb
      rw [upd_same] at e; cases e
      exact new
    · rw [upd_ne hb] at e
      refine (I.hok b u e).stay (fun d v hd q => keep d v ?_ q) (fun d q => sm _ _ q) fun d xs q => sm _ _ q
      rcases hd with rfl | z
      · exact hL _ _ e
      · exact hL _ _ z
def emptyH : Heap := { objs := #[] }
theorem ns_fun {h : Heap} {a : Addr} {m m' : Str → Option Value} (x : h.Ns a m) (y : h.Ns a m') : m = m' := by
  obtain ⟨o, es, ep, e, d, k, f⟩ := x
  obtain ⟨o', es', ep', e', d', k', f'⟩ := y
  rw [e] at e'; cases e'
  rw [d] at d'; cases d'
  funext z
  rw [← f, ← f']
/-- all objects but one -/
def others (h : Heap) (L : Addr) : List (Addr × Obj) := (List.range h.objs.size).filterMap fun b => if b = L then none else (h.get? b).map fun o => (b, o)
theorem mem_others {h : Heap} {L b : Addr} {o : Obj} : (b, o) ∈ others h L ↔ b ≠ L ∧ h.get? b = some o := by
  unfold others
  rw [List.mem_filterMap]
  constructor
  · rintro ⟨c, _, e⟩
    by_cases hc : c = L
    · rw [if_pos hc] at e; cases e
    · rw [if_neg hc] at e
      cases eg : h.get? c with
      | none => rw [eg] at e; cases e
      | some u => rw [eg] at e; cases e; exact ⟨hc, eg⟩
  · rintro ⟨hb, e⟩
    exact ⟨b, List.mem_range.mpr (Heap.lt_size e), by rw [if_neg hb, e]; rfl⟩
theorem sorted_abs {a : Addr} {ns : List Int} {Q : VK} (I : Inv X pins σ H s) (hs : SqL X.K H a (ns.map V.int))
    (q : ∀ (ns' : List Int) (p : Addr), ns'.Perm ns → ns'.Pairwise (fun x y => (if x < 0 then -x else x) ≤ (if y < 0 then -y else y)) → H p = none → Q (.ref p) (upd H p (.lst (ns'.map V.int)))) :
    wpAny (model X.prog X.w) X.A (call (.builtin "sorted") [.ref a] [(Str.ofString "key", .builtin "abs")]) (EP X pins σ Q) X.xe s := by
  obtain ⟨its, rv, hl, hz⟩ := I.list hs
  have hi : IntsAre its ns := rv.ints
  obtain ⟨m, hm, _⟩ := I.loc
  have F : Fr emptyH X.env.locals s.heap m := ⟨hm, fun b o e => by simp [emptyH, Heap.get?] at e, Nat.zero_le _⟩
  have Nn : News emptyH X.env.locals s.heap (others s.heap X.env.locals) := fun p hp => by
    obtain ⟨b, o⟩ := p
    obtain ⟨h1, h2⟩ := mem_others.mp hp
    exact ⟨h2, h1, by simp [emptyH, Heap.get?]⟩
  refine ksk_letterAny (b := false) (g := fun n => if n < 0 then -n else n) (kw := [(Str.ofString "key", .builtin "abs")]) (f := .builtin "abs") (ns := ns) (vs := its) F Nn hl.isList hi (by rw [List.length_map] at hz; exact hz) (ksk_s1 _ _) (fun _ => ksk_l1 _ _) (fun x => ksk_t4 "abs" x) (fun n t h tk own _ F' N' => ?_) (fun D vs' ns' c h' tk F' N' hD hi' _ pm pw _ => ?_)
  · exact call_abs_int fun u tk' => KskEnd.intro F' N' fun p hp => hp
  · have hsz : s.heap.get? D = none := by
      cases e : s.heap.get? D with
      | none => rfl
      | some o => exact absurd (hD _ (mem_others.mpr ⟨(N' _ List.mem_cons_self).2.1, e⟩)) (Nat.lt_irrefl _)
    have hlen : (ns'.map V.int).length ≤ sizeLine := by
      rw [List.length_map, pm.length_eq]
      rw [List.length_map] at hz
      exact hz
    refine ⟨.ref D, upd H D (.lst (ns'.map V.int)), inv_laid2 I (fun b u hb e => (N' (b, u) (List.mem_cons_of_mem _ (mem_others.mpr ⟨hb, e⟩))).1) (fun m' hm' => ?_) hsz ⟨hlen, vs', c, vals_of_ints hi', (N' _ List.mem_cons_self).1⟩, rfl, q ns' D pm (pw.imp fun h => h) (hnone I hsz)⟩
    rw [ns_fun hm' hm]
    exact F'.ns
end
def absLe (x y : Int) : Bool := decide ((if x < 0 then -x else x) ≤ (if y < 0 then -y else y))
def sortA (ns : List Int) : List Int := ns.mergeSort absLe
/-- by abs: of whole numbers no two of which have one abs -/
def gSortAbs : D → Res (List D)
  | .list ds => match intsOf ds with
    | some ns => if (ns.map Int.natAbs).Nodup then .ok ((sortA ns).map .int) else .bad
    | none => .bad
  | _ => .bad
theorem absLe_iff {x y : Int} : absLe x y = true ↔ x.natAbs ≤ y.natAbs := by
  unfold absLe
  rw [decide_eq_true_eq]
  split <;> split <;> omega
theorem sortA_perm (ns : List Int) : (sortA ns).Perm ns := List.mergeSort_perm _ _
theorem sortA_sorted (ns : List Int) : (sortA ns).Pairwise fun x y => x.natAbs ≤ y.natAbs := by
  have h := List.pairwise_mergeSort (le := absLe) (fun a b c h1 h2 => by rw [absLe_iff] at *; omega) (fun a b => by rw [Bool.or_eq_true, absLe_iff, absLe_iff]; omega) ns
  exact h.imp fun h => absLe_iff.mp h
theorem sortA_unique {xs ys : List Int} (h : xs.Perm ys) (nd : (xs.map Int.natAbs).Nodup) (h1 : xs.Pairwise fun x y => x.natAbs ≤ y.natAbs) (h2 : ys.Pairwise fun x y => x.natAbs ≤ y.natAbs) : xs = ys := by
  induction xs generalizing ys with
  | nil => rw [List.nil_perm.mp h]
  | cons x xs ih =>
    cases ys with
    | nil => exact absurd h.symm (by simp)
    | cons y ys =>
      have a1 := List.pairwise_cons.mp h1
      have a2 := List.pairwise_cons.mp h2
      have mx : x ∈ y :: ys := h.mem_iff.mp List.mem_cons_self
      have my : y ∈ x :: xs := h.mem_iff.mpr List.mem_cons_self
      have nd' := List.nodup_cons.mp (show (x.natAbs :: xs.map Int.natAbs).Nodup from nd)
      have e : x = y := by
        rcases List.mem_cons.mp mx with e | e
        · exact e
        · rcases List.mem_cons.mp my with e' | e'
          · exact e'.symm
          · have q1 := a1.1 _ e'
            have q2 := a2.1 _ e
            exact absurd (List.mem_map.mpr ⟨y, e', by omega⟩) nd'.1
      subst e
      rw [ih (List.Perm.cons_inv h) nd'.2 a1.2 a2.2]
section
variable {X : Cx} {C : SC} {B : Bs} {a : Expr} {pos p p2 kp : Pos} {ma : M (M D)}
theorem m_sortAbsO {k : Nat} (c : Ok X C k) (hm : X.mg "sorted" = none) (hm2 : X.mg "abs" = none) (ha : PE X a (tL X.K C ma)) (hg : Gl X "sorted" := by rfl) (hg2 : Gl X "abs" := by rfl)
    (hs : starEach [a] X.env = (false, eval a X.env) :: starEach [] X.env := by rfl)
    (he : backTo pos (starEach [a] X.env) = (false, eval a X.env) :: backTo pos (starEach [] X.env) := by rfl) (hpl : (backTo pos (starEach [a] X.env)).any (·.1) = false := by rfl)
    (hall : (backToKw pos (keywordEach [⟨some "key", .Name "abs" p2, kp⟩] X.env)).all (·.1.isSome) = true := by rfl) (hnone : (backToKw pos (keywordEach [⟨some "key", .Name "abs" p2, kp⟩] X.env)).any (·.1.isNone) = false := by rfl) (hks : (backToKw pos (keywordEach [⟨some "key", .Name "abs" p2, kp⟩] X.env)).filterMap (·.1) = [Str.ofString "key"] := by rfl) :
    PE X (.Call (.Name "sorted" p) [a] [⟨some "key", .Name "abs" p2, kp⟩] pos) (tO X.K C (e1 gSortAbs ma)) := by
  refine ⟨fun pins s σ H Q I h => ?_⟩
  refine wpAny_Call_Name_kw (ld_blt I hg hm (u := .builtin "sorted") (by decide +kernel) ?_ (by decide) (by decide))
  have h0 : tCons (tL X.K C ma) tNil σ H fun vs H1 => ∃ (pa : Addr) (ns : List Int), vs = [.ref pa] ∧ SqL X.K H1 pa (ns.map V.int) ∧ ∀ (ns' : List Int) (np : Addr), ns'.Perm ns → ns'.Pairwise (fun x y => (if x < 0 then -x else x) ≤ (if y < 0 then -y else y)) → H1 np = none → Q (.ref np) (upd H1 np (.lst (ns'.map V.int))) := by
    obtain ⟨B, F, ρ, S, q⟩ := h
    refine tL.of S q.bind fun l ρ1 h1 v F1 H1 s1 S1 r1 => ?_
    obtain ⟨d, rd, h2⟩ := late_step S1 r1 h1
    cases d <;> try exact (RX.bad_elim (show RX C B _ (M.lift _ ρ1) from h2) rfl).elim
    rename_i ds
    obtain ⟨pp, xs, rfl, fp, zx, r⟩ := rpv_lst S1.fr rd
    cases e : intsOf ds with
    | none => exact (RX.bad_elim (show RX C B _ (M.lift (gSortAbs (.list ds)) ρ1) from h2) (by simp only [gSortAbs, e])).elim
    | some ns =>
      by_cases nd : (ns.map Int.natAbs).Nodup
      · have z := intsOf_eq e
        subst z
        have y := r.ints
        subst y
        refine ⟨pp, ns, rfl, .inl fp, fun ns' np pm pw nn => ?_⟩
        have pw' : ns'.Pairwise fun x y => x.natAbs ≤ y.natAbs := pw.imp fun {x y} h => by split at h <;> split at h <;> omega
        have e2 : ns' = sortA ns := sortA_unique (pm.trans (sortA_perm ns).symm) ((pm.map Int.natAbs).nodup_iff.mpr nd) pw' (sortA_sorted ns)
        rw [e2]
        refine po_new (r := gSortAbs (.list (ns.map .int))) S1 (h2.imp fun _ _ q => q.mono s1) (by simp only [gSortAbs, e, if_pos nd]) nn ?_ (RpAll.of_ints _)
        rw [List.length_map] at zx ⊢
        rw [(sortA_perm ns).length_eq]; exact zx
      · exact (RX.bad_elim (show RX C B _ (M.lift (gSortAbs (.list ds)) ρ1) from h2) (by simp only [gSortAbs, e, if_neg nd])).elim
  refine PyProof.Rows.callWith_kw (thn ((pa_cons ha pa_nil hs).run pos pins s σ H _ I h0) fun us s1 ⟨vs, H1, I1, r1, q1⟩ => ?_) he hpl hall hnone
  show wpAny _ _ (evalAll ((do let v ← eval (.Name "abs" p2) X.env; standAt pos; pure v) :: [])) _ _ s1
  refine wpAny_evalAll_cons (wpAny_bind (ld_blt I1 hg2 hm2 (u := .builtin "abs") (by decide +kernel) ?_ (by decide) (by decide)))
  refine wpAny_bind (wpAny_standAt (wpAny_pure ?_))
  refine wpAny_evalAll_nil ?_
  rw [hks]
  obtain ⟨pa, ns, rfl, hq, q2⟩ := q1
  obtain ⟨u, rfl, ru⟩ := vals1 r1
  cases ru
  exact sorted_abs I1 hq q2
end
end VS

set_option Elab.async false
set_option linter.all false
set_option maxRecDepth 100000
set_option maxHeartbeats 4000000
namespace VS
open PySem PySem.Spec PyProof.Rows L2
/-! ### wiping and freezing, as rules -/
def Sl.frz : Sl → Sl
  | .own ds => .val (.list ds)
  | s => s
def frz1 : En → Nat → En
  | [], _ => []
  | s :: ρ, 0 => s.frz :: ρ
  | s :: ρ, n + 1 => s :: frz1 ρ n
def wip1 : En → Nat → En
  | [], _ => []
  | _ :: ρ, 0 => .emp :: ρ
  | s :: ρ, n + 1 => s :: wip1 ρ n
def frzE (ρ : En) : List Nat → En
  | [] => ρ
  | i :: is => frzE (frz1 ρ i) is
def wipE (ρ : En) : List Nat → En
  | [] => ρ
  | i :: is => wipE (wip1 ρ i) is
theorem wip1_set : ∀ (ρ : En) (i : Nat), wip1 ρ i = ρ.set i .emp
  | [], _ => rfl
  | _ :: _, 0 => rfl
  | s :: ρ, n + 1 => by show s :: wip1 ρ n = _; rw [wip1_set ρ n]; rfl
theorem frz1_set : ∀ (ρ : En) (i : Nat), (∃ ds, ρ[i]? = some (.own ds) ∧ frz1 ρ i = ρ.set i (.val (.list ds))) ∨ frz1 ρ i = ρ
  | [], _ => .inr rfl
  | s :: ρ, 0 => by
    cases s with
    | own ds => exact .inl ⟨ds, rfl, rfl⟩
    | emp => exact .inr rfl
    | val d => exact .inr rfl
    | scr n => exact .inr rfl
    | dT k => exact .inr rfl
    | dK k => exact .inr rfl
  | s :: ρ, n + 1 => by
    rcases frz1_set ρ n with ⟨ds, e1, e2⟩ | e
    · exact .inl ⟨ds, e1, by show s :: frz1 ρ n = _; rw [e2]; rfl⟩
    · exact .inr (by show s :: frz1 ρ n = _; rw [e])
section
variable {K : PySem.W.Frag} {C : SC} {B : Bs} {F H : Hp} {σ : L2.St} {ρ : En}
theorem SR.forget (S : SR K C B F σ H ρ) {i : Nat} (ni : C.rf = none ∨ i ≠ 0) : SR K C B F σ H (wip1 ρ i) := by
  rw [wip1_set]
  by_cases hl : i < σ.length
  · have h := S.emp (v := σ[i]) ni
    rwa [List.set_getElem_self] at h
  · have h := S.emp (v := none) ni
    rwa [List.set_eq_of_length_le (by omega : σ.length ≤ i)] at h
theorem SR.wips : ∀ {vs : List Nat} {ρ : En} (S : SR K C B F σ H ρ), (∀ v ∈ vs, C.rf = none ∨ v ≠ 0) → SR K C B F σ H (wipE ρ vs)
  | [], _, S, _ => S
  | v :: vs, ρ, S, h => show SR K C B F σ H (wipE (wip1 ρ v) vs) from SR.wips (S.forget (h v List.mem_cons_self)) fun u hu => h u (List.mem_cons_of_mem _ hu)
theorem SR.frzs : ∀ {vs : List Nat} {F : Hp} {ρ : En} (S : SR K C B F σ H ρ), (∀ v ∈ vs, C.rf = none ∨ v ≠ 0) → ∃ F', Same F F' ∧ SR K C B F' σ H (frzE ρ vs)
  | [], F, _, S, _ => ⟨F, Same.refl _, S⟩
  | v :: vs, F, ρ, S, h => by
    have hr := fun u hu => h u (List.mem_cons_of_mem v hu)
    rcases frz1_set ρ v with ⟨ds, e1, e2⟩ | e
    · obtain ⟨p, xs, _, S', sf, _⟩ := S.freeze e1 (h v List.mem_cons_self)
      rw [← e2] at S'
      obtain ⟨F', s, S2⟩ := SR.frzs S' hr
      exact ⟨F', sf.trans s, S2⟩
    · show ∃ F', Same F F' ∧ SR K C B F' σ H (frzE (frz1 ρ v) vs)
      rw [e]
      exact SR.frzs S hr
end
def sPre (fz wp : List Nat) (m : M Fl) : M Fl := fun ρ => m (wipE (frzE ρ fz) wp)
def clean (r : Bool) (ρ : En) : En := match ρ with
  | [] => []
  | s :: ρ => (if r then s else .emp) :: clean false ρ
def sRetC (r : Bool) (m : M D) : M Fl := fun ρ => (m ρ).bind fun p => .ok (.rt p.1, clean r p.2)
def sRetOC (r : Bool) (m : M (List D)) : M Fl := fun ρ => (m ρ).bind fun p => .ok (.ro p.1, clean r p.2)
section
variable {K : PySem.W.Frag} {C : SC} {B : Bs} {F H : Hp} {σ : L2.St} {ρ : En}
theorem clean_getF : ∀ {ρ : En} {i : Nat} {s : Sl}, (clean false ρ)[i]? = some s → s = .emp
  | [], i, s, h => by cases i <;> cases h
  | t :: ρ, 0, s, h => (Option.some.inj h).symm
  | t :: ρ, i + 1, s, h => clean_getF (ρ := ρ) (i := i) h
theorem clean_get {r : Bool} : ∀ {ρ : En} {i : Nat} {s : Sl}, (clean r ρ)[i]? = some s → s = .emp ∨ (r = true ∧ i = 0 ∧ ρ[0]? = some s)
  | [], i, s, h => by cases i <;> cases h
  | t :: ρ, 0, s, h => by
    cases r with
    | false => exact .inl (Option.some.inj h).symm
    | true => exact .inr ⟨rfl, rfl, h⟩
  | t :: ρ, i + 1, s, h => .inl (clean_getF (ρ := ρ) (i := i) h)
theorem clean_len : ∀ {r : Bool} {ρ : En}, (clean r ρ).length = ρ.length
  | _, [] => rfl
  | _, s :: ρ => by show (clean false ρ).length + 1 = _; rw [clean_len]; rfl
theorem SR.cleaned {r : Bool} (S : SR K C B F σ H ρ) (hr : C.rf = none ∨ r = true) : SR K C B F σ H (clean r ρ) := by
  have own : ∀ {i p}, OwnAt σ (clean r ρ) i p → i = 0 := fun {i p} ⟨s, e, o, _⟩ => by
    rcases clean_get e with rfl | ⟨_, h, _⟩
    · cases o
    · exact h
  refine ⟨S.fr, S.nf, S.kp, by rw [clean_len]; exact S.len, fun i s v e1 e2 => ?_, fun i j p h1 h2 => by rw [own h1, own h2], fun p hp => ?_⟩
  · rcases clean_get e1 with rfl | ⟨_, rfl, h⟩
    · trivial
    · exact S.sl 0 s v h e2
  · obtain ⟨h1, ds, h2⟩ := S.rf p hp
    refine ⟨h1, ds, ?_⟩
    rcases hr with hr | hr
    · rw [hr] at hp; cases hp
    · subst hr
      cases ρ with
      | nil => cases h2
      | cons s ρ => exact h2
end
section
variable {X : Cx} {C : SC} {st : Stmt} {ss rest : List Stmt} {f g : M Fl} {e : Expr} {pos : Pos} {m : M D} {mo : M (List D)}
theorem mss_pre {fz wp : List Nat} (h : PSs X ss (tS X.K C f)) (hz : C.rf = none ∨ (∀ v ∈ fz, v ≠ 0) ∧ ∀ v ∈ wp, v ≠ 0) : PSs X ss (tS X.K C (sPre fz wp f)) := pss_imp h fun E σ H ⟨B, F, ρ, S, q⟩ => by
  obtain ⟨F', sf, S'⟩ := S.frzs (vs := fz) fun v hv => hz.imp id fun h => h.1 v hv
  exact ⟨B, F', _, S'.wips (vs := wp) fun v hv => hz.imp id fun h => h.2 v hv, RX.imp q fun _ _ q => q.mono sf⟩
theorem ms_retC {r : Bool} (hr : C.rf = none ∨ r = true) (h : PE X e (tM X.K C m)) : PS X (.Return (some e) pos) (tS X.K C (sRetC r m)) := ps_imp (ps_ret h) fun E σ H ⟨B, F, ρ, S, q⟩ => by
  refine ⟨B, F, ρ, S, ?_⟩
  unfold sRetC at q
  cases em : m ρ with
  | ok p =>
    rw [em] at q
    exact fun v F1 H1 s1 S1 r1 => q v σ F1 H1 s1 (S1.cleaned hr) r1
  | exc c => rw [em] at q; exact q
  | bad => rw [em] at q; exact q
theorem ms_retOC {r : Bool} (hr : C.rf = none ∨ r = true) (h : PE X e (tO X.K C mo)) : PS X (.Return (some e) pos) (tS X.K C (sRetOC r mo)) := ps_imp (ps_ret h) fun E σ H ⟨B, F, ρ, S, q⟩ => by
  refine ⟨B, F, ρ, S, ?_⟩
  unfold sRetOC at q
  cases em : mo ρ with
  | ok p =>
    rw [em] at q
    exact fun p' xs F1 H1 s1 S1 fp bp no hp z r1 => q p' xs σ F1 H1 s1 (S1.cleaned hr) fp bp hp z r1
  | exc c => rw [em] at q; exact q
  | bad => rw [em] at q; exact q
end
/-! ### the functional reading -/
section
variable {α β γ : Type}
theorem Res.assoc (r : Res α) (f : α → Res β) (g : β → Res γ) : (r.bind f).bind g = r.bind fun a => (f a).bind g := by cases r <;> rfl
theorem bIf_bind (c : Bool) (a b : Res α) (k : α → Res β) : (bIf c a b).bind k = bIf c (a.bind k) (b.bind k) := by cases c <;> rfl
theorem Res.bind_ok (r : Res α) : (r.bind fun a => .ok a) = r := by cases r <;> rfl
def cps (m : M α) (ρ : En) (k : α → En → Res β) : Res β := (m ρ).bind fun p => k p.1 p.2
theorem cps_id (m : M α) (ρ : En) : m ρ = cps m ρ fun a ρ1 => .ok (a, ρ1) := by
  unfold cps; cases m ρ <;> rfl
theorem cps_of {m : M α} {ρ : En} {r : Res (α × En)} (h : m ρ = r) (k : α → En → Res β) : cps m ρ k = r.bind fun p => k p.1 p.2 := by unfold cps; rw [h]
theorem cps_bind (m : M α) (f : α → M γ) (ρ : En) (k : γ → En → Res β) : cps (m >>= f) ρ k = cps m ρ fun a ρ1 => cps (f a) ρ1 k := by
  show ((m ρ).bind fun p => f p.1 p.2).bind _ = (m ρ).bind _
  rw [Res.assoc]; rfl
theorem cps_lift (r : Res α) (ρ : En) (k : α → En → Res β) : cps (M.lift r) ρ k = r.bind fun a => k a ρ := by
  show (r.bind fun a => Res.ok (a, ρ)).bind _ = _
  rw [Res.assoc]; rfl
def nxR (r : Res α) : Res α := match r with
  | .exc _ => .bad
  | r => r
theorem nxR_ok (a : α) : nxR (.ok a) = .ok a := id rfl
theorem nxR_bad : nxR (.bad : Res α) = .bad := id rfl
theorem nxR_exc (c : Str) : nxR (.exc c : Res α) = .bad := id rfl
theorem nxR_nxR (r : Res α) : nxR (nxR r) = nxR r := by cases r <;> rfl
end
def kB (f : Fl) (_ : En) : Res D := match f with
  | .rt d => .ok d
  | .nx => .ok .none
  | _ => .bad
def kO (f : Fl) (_ : En) : Res (List D) := match f with
  | .ro d => .ok d
  | _ => .bad
def kR (f : Fl) (ρ : En) : Res (D × List D) := match f, ρ with
  | .rt d, .own ds :: _ => .ok (d, ds)
  | .nx, .own ds :: _ => .ok (.none, ds)
  | _, _ => .bad
theorem kB_rt (d : D) (ρ : En) : kB (.rt d) ρ = .ok d := id rfl
theorem kB_nx (ρ : En) : kB .nx ρ = .ok .none := id rfl
theorem kO_ro (d : List D) (ρ : En) : kO (.ro d) ρ = .ok d := id rfl
theorem kR_rt (d : D) (ds : List D) (ρ : En) : kR (.rt d) (.own ds :: ρ) = .ok (d, ds) := id rfl
theorem kR_rtC (d : D) (ds : List D) (ρ : En) : kR (.rt d) (clean true (.own ds :: ρ)) = .ok (d, ds) := id rfl
theorem clean_nil (r : Bool) : clean r [] = [] := id rfl
theorem clean_t (s : Sl) (ρ : En) : clean true (s :: ρ) = s :: clean false ρ := id rfl
theorem clean_f (s : Sl) (ρ : En) : clean false (s :: ρ) = .emp :: clean false ρ := id rfl
theorem kR_nx (ds : List D) (ρ : En) : kR .nx (.own ds :: ρ) = .ok (.none, ds) := id rfl
theorem runB_cps (n : Nat) (m : M Fl) (ds : List D) : runB n m ds = cps m (startE n ds) kB := by
  unfold runB cps
  cases m (startE n ds) with
  | ok p => obtain ⟨f, ρ⟩ := p; cases f <;> rfl
  | exc c => rfl
  | bad => rfl
theorem runO_cps (n : Nat) (m : M Fl) (ds : List D) : runO n m ds = nxR (cps m (startE n ds) kO) := by
  unfold runO cps
  cases m (startE n ds) with
  | ok p => obtain ⟨f, ρ⟩ := p; cases f <;> rfl
  | exc c => rfl
  | bad => rfl
theorem runR_cps (n : Nat) (m : M Fl) (ds es : List D) : runR n m ds es = nxR (cps m (startR n ds es) kR) := by
  unfold runR cps
  cases m (startR n ds es) with
  | ok p =>
    obtain ⟨f, ρ⟩ := p
    cases f <;> (cases ρ with
      | nil => rfl
      | cons s ρ => cases s <;> rfl)
  | exc c => rfl
  | bad => rfl
theorem runSV_cps (n : Nat) (m : M Fl) (ns : List Int) (ds : List D) : runSV n m ns ds = nxR (cps m (startS n ns ds) kB) := by
  unfold runSV cps
  cases m (startS n ns ds) with
  | ok p => obtain ⟨f, ρ⟩ := p; cases f <;> rfl
  | exc c => rfl
  | bad => rfl
theorem runSO_cps (n : Nat) (m : M Fl) (ns : List Int) (ds : List D) : runSO n m ns ds = nxR (cps m (startS n ns ds) kO) := by
  unfold runSO cps
  cases m (startS n ns ds) with
  | ok p => obtain ⟨f, ρ⟩ := p; cases f <;> rfl
  | exc c => rfl
  | bad => rfl
/-! ### the functional forms of loops -/
inductive Lp (S R : Type) where
  | nx (s : S)
  | rt (r : R)
def lpK {S R β : Type} (o : Lp S R) (f : S → β) (g : R → β) : β := match o with
  | .nx s => f s
  | .rt r => g r
theorem lpK_nx {S R β : Type} (s : S) (f : S → β) (g : R → β) : lpK (.nx s) f g = f s := id rfl
theorem lpK_rt {S R β : Type} (s : R) (f : S → β) (g : R → β) : lpK (.rt s) f g = g s := id rfl
theorem lpK_bind {S R β γ : Type} (o : Lp S R) (f : S → Res β) (g : R → Res β) (k : β → Res γ) : (lpK o f g).bind k = lpK o (fun s => (f s).bind k) fun r => (g r).bind k := by cases o <;> rfl
section
variable {S R : Type}
def lcGoR (f : D → Res D) : List D → Res (List D)
  | [] => .ok []
  | d :: ds => (nxR (f d)).bind fun y => (lcGoR f ds).bind fun ys => .ok (y :: ys)
def lcR (f : D → Res D) (ds : List D) : Res (List D) := if ds.length ≤ sizeLine then lcGoR f ds else .bad
def lcGoTR (t : D → Res Bool) (f : D → Res D) : List D → Res (List D)
  | [] => .ok []
  | d :: ds => (nxR (t d)).bind fun b => bIf b ((nxR (f d)).bind fun y => (lcGoTR t f ds).bind fun ys => .ok (y :: ys)) (lcGoTR t f ds)
def lcTR (t : D → Res Bool) (f : D → Res D) (ds : List D) : Res (List D) := if ds.length ≤ sizeLine then lcGoTR t f ds else .bad
def lcGoSR (f : D → S → Res (D × S)) : List D → S → Res (List D × S)
  | [], s => .ok ([], s)
  | d :: ds, s => (nxR (f d s)).bind fun y => (lcGoSR f ds y.2).bind fun ys => .ok (y.1 :: ys.1, ys.2)
def lcSR (f : D → S → Res (D × S)) (ds : List D) (s : S) : Res (List D × S) := if ds.length ≤ sizeLine then lcGoSR f ds s else .bad
def consO (o : Option D) (ys : List D) : List D := match o with
  | some y => y :: ys
  | none => ys
def lcGoOR (f : D → S → Res (Option D × S)) : List D → S → Res (List D × S)
  | [], s => .ok ([], s)
  | d :: ds, s => (nxR (f d s)).bind fun y => (lcGoOR f ds y.2).bind fun ys => .ok (consO y.1 ys.1, ys.2)
def lcOR (f : D → S → Res (Option D × S)) (ds : List D) (s : S) : Res (List D × S) := if ds.length ≤ sizeLine then lcGoOR f ds s else .bad
def foldR (f : D → S → Res S) : List D → S → Res S
  | [], s => .ok s
  | d :: ds, s => (f d s).bind fun s' => foldR f ds s'
def forR (f : D → S → Res (Lp S R)) : List D → S → Res (Lp S R)
  | [], s => .ok (.nx s)
  | d :: ds, s => (f d s).bind fun o => lpK o (fun s' => forR f ds s') fun r => .ok (.rt r)
def whR (t : S → Res Bool) (f : S → Res S) : Nat → S → Res S
  | 0, _ => .bad
  | n + 1, s => (t s).bind fun c => bIf c ((f s).bind fun s' => whR t f n s') (.ok s)
def whL (t : S → Res Bool) (f : S → Res (Lp S R)) : Nat → S → Res (Lp S R)
  | 0, _ => .bad
  | n + 1, s => (t s).bind fun c => bIf c ((f s).bind fun o => lpK o (fun s' => whL t f n s') fun r => .ok (.rt r)) (.ok (.nx s))
end
section
variable {β S R : Type}
def sqC (f : Fl) (b : M Fl) (ρ : En) (k : Fl → En → Res β) : Res β := match f with
  | .nx => cps b ρ k
  | f => k f ρ
theorem sqC_nx (b : M Fl) (ρ : En) (k : Fl → En → Res β) : sqC .nx b ρ k = cps b ρ k := id rfl
theorem sqC_rt (d : D) (b : M Fl) (ρ : En) (k : Fl → En → Res β) : sqC (.rt d) b ρ k = k (.rt d) ρ := id rfl
theorem sqC_ro (d : List D) (b : M Fl) (ρ : En) (k : Fl → En → Res β) : sqC (.ro d) b ρ k = k (.ro d) ρ := id rfl
theorem sqC_ct (b : M Fl) (ρ : En) (k : Fl → En → Res β) : sqC .ct b ρ k = k .ct ρ := id rfl
theorem sqC_bk (b : M Fl) (ρ : En) (k : Fl → En → Res β) : sqC .bk b ρ k = k .bk ρ := id rfl
theorem c_seq (a b : M Fl) (ρ : En) (k : Fl → En → Res β) : cps (sSeq a b) ρ k = cps a ρ fun f ρ1 => sqC f b ρ1 k := by
  unfold sSeq
  rw [cps_bind]
  congr 1; funext f ρ1
  cases f <;> rfl
theorem c_pre (fz wp : List Nat) (m : M Fl) (ρ : En) (k : Fl → En → Res β) : cps (sPre fz wp m) ρ k = cps m (wipE (frzE ρ fz) wp) k := id rfl
theorem c_fl (f : Fl) (ρ : En) (k : Fl → En → Res β) : cps (pure f : M Fl) ρ k = k f ρ := id rfl
theorem c_pd (f : D) (ρ : En) (k : D → En → Res β) : cps (pure f : M D) ρ k = k f ρ := id rfl
theorem c_pm (f : D) (ρ : En) (k : D → En → Res β) : cps (pure f : M D) ρ k = k f ρ := id rfl
theorem c_pl (f : List D) (ρ : En) (k : List D → En → Res β) : cps (pure f : M (List D)) ρ k = k f ρ := id rfl
theorem c_pb (f : Bool) (ρ : En) (k : Bool → En → Res β) : cps (pure f : M Bool) ρ k = k f ρ := id rfl
theorem c_yes (ρ : En) (k : Bool → En → Res β) : cps mYes ρ k = k true ρ := id rfl
theorem c_po (f : Option Int) (ρ : En) (k : Option Int → En → Res β) : cps (pure f : M (Option Int)) ρ k = k f ρ := id rfl
theorem c_exc (c : Str) (ρ : En) (k : Fl → En → Res β) : cps (sExc c) ρ k = .exc c := id rfl
theorem c_ret (m : M D) (ρ : En) (k : Fl → En → Res β) : cps (sRet m) ρ k = cps m ρ fun d ρ1 => k (.rt d) ρ1 := by unfold sRet; rw [cps_bind]; rfl
theorem c_retO (m : M (List D)) (ρ : En) (k : Fl → En → Res β) : cps (sRetO m) ρ k = cps m ρ fun d ρ1 => k (.ro d) ρ1 := by unfold sRetO; rw [cps_bind]; rfl
theorem c_retC (r : Bool) (m : M D) (ρ : En) (k : Fl → En → Res β) : cps (sRetC r m) ρ k = cps m ρ fun d ρ1 => k (.rt d) (clean r ρ1) := by
  show ((m ρ).bind fun p => Res.ok (Fl.rt p.1, clean r p.2)).bind _ = _
  rw [Res.assoc]; rfl
theorem c_retOC (r : Bool) (m : M (List D)) (ρ : En) (k : Fl → En → Res β) : cps (sRetOC r m) ρ k = cps m ρ fun d ρ1 => k (.ro d) (clean r ρ1) := by
  show ((m ρ).bind fun p => Res.ok (Fl.ro p.1, clean r p.2)).bind _ = _
  rw [Res.assoc]; rfl
theorem c_do (m : M D) (ρ : En) (k : Fl → En → Res β) : cps (sDo m) ρ k = cps m ρ fun _ ρ1 => k .nx ρ1 := by unfold sDo; rw [cps_bind]; rfl
theorem c_if (t : M Bool) (a b : M Fl) (ρ : En) (k : Fl → En → Res β) : cps (sIf t a b) ρ k = cps t ρ fun c ρ1 => bIf c (cps a ρ1 k) (cps b ρ1 k) := by
  unfold sIf
  rw [cps_bind]
  congr 1; funext c ρ1
  cases c <;> rfl
theorem c_set (i : Nat) (m : M D) (ρ : En) (k : Fl → En → Res β) : cps (sSet i m) ρ k = cps m ρ fun d ρ1 => cps (setV i d) ρ1 fun _ ρ2 => k .nx ρ2 := by
  unfold sSet; rw [cps_bind]; congr 1; funext d ρ1; rw [cps_bind]; rfl
theorem c_setO (i : Nat) (m : M (List D)) (ρ : En) (k : Fl → En → Res β) : cps (sSetO i m) ρ k = cps m ρ fun d ρ1 => cps (setO i d) ρ1 fun _ ρ2 => k .nx ρ2 := by
  unfold sSetO; rw [cps_bind]; congr 1; funext d ρ1; rw [cps_bind]; rfl
theorem c_newD (i : Nat) (s : Sl) (ρ : En) (k : Fl → En → Res β) : cps (sNewD i s) ρ k = cps (setS i s) ρ fun _ ρ2 => k .nx ρ2 := by
  unfold sNewD; rw [cps_bind]; rfl
theorem c_app (i : Nat) (m : M D) (ρ : En) (k : Fl → En → Res β) : cps (sApp' i m) ρ k = cps (isO i) ρ fun _ ρ0 => cps m ρ0 fun d ρ1 => cps (appO i d) ρ1 fun _ ρ2 => k .nx ρ2 := by
  unfold sApp' sApp; rw [cps_bind]; congr 1; funext _ ρ0; rw [cps_bind]; congr 1; funext d ρ1; rw [cps_bind]; rfl
theorem c_ext (i : Nat) (m : M D) (ρ : En) (k : Fl → En → Res β) : cps (sExt i m) ρ k = cps (isO i) ρ fun _ ρ0 => cps m ρ0 fun d ρ1 => cps (extO i d) ρ1 fun _ ρ2 => k .nx ρ2 := by
  unfold sExt; rw [cps_bind]; congr 1; funext _ ρ0; rw [cps_bind]; congr 1; funext d ρ1; rw [cps_bind]; rfl
theorem c_setIx (i : Nat) (mk : M (M D)) (m : M D) (ρ : En) (k : Fl → En → Res β) : cps (sSetIx i mk m) ρ k = cps m ρ fun d ρ0 => cps (isO i) ρ0 fun _ ρ1 => cps mk ρ1 fun l ρ2 => cps l ρ2 fun j ρ3 => cps (setIxO i j d) ρ3 fun _ ρ4 => k .nx ρ4 := by
  unfold sSetIx; rw [cps_bind]; congr 1; funext d ρ0; rw [cps_bind]; congr 1; funext _ ρ1; rw [cps_bind]; congr 1; funext l ρ2; rw [cps_bind]; congr 1; funext j ρ3; rw [cps_bind]; rfl
theorem c_putD (i : Nat) (mk : M (M D)) (m : M D) (ρ : En) (k : Fl → En → Res β) : cps (sPutD i mk m) ρ k = cps m ρ fun d ρ0 => cps (isDI i) ρ0 fun _ ρ1 => cps mk ρ1 fun l ρ2 => cps l ρ2 fun j ρ3 => cps (putDI i j d) ρ3 fun _ ρ4 => k .nx ρ4 := by
  unfold sPutD; rw [cps_bind]; congr 1; funext d ρ0; rw [cps_bind]; congr 1; funext _ ρ1; rw [cps_bind]; congr 1; funext l ρ2; rw [cps_bind]; congr 1; funext j ρ3; rw [cps_bind]; rfl
def parC (i j : Nat) (ds : List D) (ρ : En) (k : Fl → En → Res β) : Res β := match ds with
  | [d, e] => cps (setV i d) ρ fun _ ρ1 => cps (setV j e) ρ1 fun _ ρ2 => k .nx ρ2
  | _ => .bad
theorem parC_ok (i j : Nat) (d e : D) (ρ : En) (k : Fl → En → Res β) : parC i j [d, e] ρ k = cps (setV i d) ρ fun _ ρ1 => cps (setV j e) ρ1 fun _ ρ2 => k .nx ρ2 := id rfl
theorem c_par (i j : Nat) (ms : M (List D)) (ρ : En) (k : Fl → En → Res β) : cps (sPar i j ms) ρ k = cps ms ρ fun ds ρ1 => parC i j ds ρ1 k := by
  unfold sPar
  rw [cps_bind]
  congr 1; funext ds ρ1
  match ds with
  | [] => rfl
  | [_] => rfl
  | [d, e] => rw [cps_bind]; unfold parC; congr 1; funext _ ρ2; rw [cps_bind]; rfl
  | _ :: _ :: _ :: _ => rfl
theorem c_asg (bd : D → M Unit) (m : M D) (ρ : En) (k : Fl → En → Res β) : cps (sAsg bd m) ρ k = cps m ρ fun d ρ1 => cps (bd d) ρ1 fun _ ρ2 => k .nx ρ2 := by
  unfold sAsg; rw [cps_bind]; congr 1; funext d ρ1; rw [cps_bind]; rfl
theorem c_for (mi : M (List D)) (bd : D → M Unit) (body : M Fl) (ρ : En) (k : Fl → En → Res β) : cps (sFor mi bd body) ρ k = cps mi ρ fun ds ρ1 => cps (forGo bd body ds) ρ1 k := by
  unfold sFor; rw [cps_bind]
/-! expressions -/
theorem c_vl (m : M D) (ρ : En) (k : M D → En → Res β) : cps (eVl m) ρ k = cps m ρ fun d ρ1 => k (pure d) ρ1 := by unfold eVl; rw [cps_bind]; rfl
theorem c_e1 {α : Type} (g : D → Res α) (ma : M (M D)) (ρ : En) (k : α → En → Res β) : cps (e1 g ma) ρ k = cps ma ρ fun l ρ1 => cps l ρ1 fun a ρ2 => (g a).bind fun x => k x ρ2 := by
  unfold e1; rw [cps_bind]; congr 1; funext l ρ1; rw [cps_bind]; congr 1; funext a ρ2; rw [cps_lift]
theorem c_e2 {α : Type} (g : D → D → Res α) (ma mb : M (M D)) (ρ : En) (k : α → En → Res β) : cps (e2 g ma mb) ρ k = cps ma ρ fun la ρ1 => cps mb ρ1 fun lb ρ2 => cps la ρ2 fun a ρ3 => cps lb ρ3 fun b ρ4 => (g a b).bind fun x => k x ρ4 := by
  unfold e2; rw [cps_bind]; congr 1; funext la ρ1; rw [cps_bind]; congr 1; funext lb ρ2; rw [cps_bind]; congr 1; funext a ρ3; rw [cps_bind]; congr 1; funext b ρ4; rw [cps_lift]
theorem c_e3 (g g' : D → D → Res D) (ma mb mc : M (M D)) (ρ : En) (k : D → En → Res β) : cps (e3 g g' ma mb mc) ρ k = cps ma ρ fun la ρ1 => cps mb ρ1 fun lb ρ2 => cps la ρ2 fun a ρ3 => cps lb ρ3 fun b ρ4 => (g a b).bind fun x => (asB x).bind fun t => bIf t (cps mc ρ4 fun lc ρ5 => cps lb ρ5 fun b ρ6 => cps lc ρ6 fun c ρ7 => (g' b c).bind fun y => k y ρ7) (k (.bool false) ρ4) := by
  unfold e3; rw [cps_bind]; congr 1; funext la ρ1; rw [cps_bind]; congr 1; funext lb ρ2; rw [cps_bind, cps_bind]; congr 1; funext a ρ3; rw [cps_bind]; congr 1; funext b ρ4; rw [cps_bind, cps_lift]; congr 1; funext x; rw [cps_lift]; congr 1; funext t
  cases t with
  | false => rfl
  | true =>
    rw [if_pos rfl, bIf_t, cps_bind]; congr 1; funext lc ρ5; rw [cps_bind]; congr 1; funext b ρ6; rw [cps_bind]; congr 1; funext c ρ7; rw [cps_lift]
theorem c_notV (m : M D) (ρ : En) (k : D → En → Res β) : cps (eNotV m) ρ k = cps (eB m) ρ fun b ρ1 => k (.bool (!b)) ρ1 := by unfold eNotV; rw [cps_bind]; rfl
theorem c_eB (m : M D) (ρ : En) (k : Bool → En → Res β) : cps (eB m) ρ k = cps m ρ fun d ρ1 => (asB d).bind fun b => k b ρ1 := by
  unfold eB; rw [cps_bind]; congr 1; funext d ρ1; rw [cps_lift]
theorem c_not (m : M Bool) (ρ : En) (k : Bool → En → Res β) : cps (eNot m) ρ k = cps m ρ fun b ρ1 => k (!b) ρ1 := by unfold eNot; rw [cps_bind]; rfl
theorem c_and (a b : M Bool) (ρ : En) (k : Bool → En → Res β) : cps (eAnd a b) ρ k = cps a ρ fun x ρ1 => bIf x (cps b ρ1 k) (k false ρ1) := by
  unfold eAnd; rw [cps_bind]; congr 1; funext x ρ1; cases x <;> rfl
theorem c_or (a b : M Bool) (ρ : En) (k : Bool → En → Res β) : cps (eOr a b) ρ k = cps a ρ fun x ρ1 => bIf x (k true ρ1) (cps b ρ1 k) := by
  unfold eOr; rw [cps_bind]; congr 1; funext x ρ1; cases x <;> rfl
theorem c_andV (a b : M D) (ρ : En) (k : D → En → Res β) : cps (eAndV a b) ρ k = cps (eB a) ρ fun x ρ1 => bIf x (cps b ρ1 k) (k (.bool false) ρ1) := by
  unfold eAndV; rw [cps_bind]; congr 1; funext x ρ1; cases x <;> rfl
theorem c_orV (a b : M D) (ρ : En) (k : D → En → Res β) : cps (eOrV a b) ρ k = cps (eB a) ρ fun x ρ1 => bIf x (k (.bool true) ρ1) (cps b ρ1 k) := by
  unfold eOrV; rw [cps_bind]; congr 1; funext x ρ1; cases x <;> rfl
theorem c_eIf (t : M Bool) (a b : M D) (ρ : En) (k : D → En → Res β) : cps (eIf t a b) ρ k = cps t ρ fun c ρ1 => bIf c (cps a ρ1 k) (cps b ρ1 k) := by
  unfold eIf; rw [cps_bind]; congr 1; funext c ρ1; cases c <;> rfl
theorem c_cons (m : M D) (ms : M (List D)) (ρ : En) (k : List D → En → Res β) : cps (eCons m ms) ρ k = cps m ρ fun d ρ1 => cps ms ρ1 fun ds ρ2 => k (d :: ds) ρ2 := by
  unfold eCons; rw [cps_bind]; congr 1; funext d ρ1; rw [cps_bind]; rfl
theorem c_tup (ms : M (List D)) (ρ : En) (k : D → En → Res β) : cps (eTup ms) ρ k = cps ms ρ fun ds ρ1 => (few ds).bind fun ds => k (.tuple ds) ρ1 := by
  unfold eTup; rw [cps_bind]; congr 1; funext ds ρ1; rw [cps_bind, cps_lift]; rfl
theorem c_lst (ms : M (List D)) (ρ : En) (k : List D → En → Res β) : cps (eLst ms) ρ k = cps ms ρ fun ds ρ1 => (few ds).bind fun ds => k ds ρ1 := by
  unfold eLst; rw [cps_bind]; congr 1; funext ds ρ1; rw [cps_lift]
theorem c_L (m : M (List D)) (ρ : En) (k : D → En → Res β) : cps (eL m) ρ k = cps m ρ fun ds ρ1 => k (.list ds) ρ1 := by unfold eL; rw [cps_bind]; rfl
theorem c_sl {α : Type} (g : D → Option Int → Option Int → Res α) (ma : M (M D)) (ml mh : M (Option Int)) (ρ : En) (k : α → En → Res β) : cps (eSl g ma ml mh) ρ k = cps ma ρ fun la ρ1 => cps ml ρ1 fun l ρ2 => cps mh ρ2 fun h ρ3 => cps la ρ3 fun a ρ4 => (g a l h).bind fun x => k x ρ4 := by
  unfold eSl; rw [cps_bind]; congr 1; funext la ρ1; rw [cps_bind]; congr 1; funext l ρ2; rw [cps_bind]; congr 1; funext h ρ3; rw [cps_bind]; congr 1; funext a ρ4; rw [cps_lift]
def asOI : D → Res (Option Int)
  | .int i => .ok (some i)
  | _ => .bad
theorem asOI_i (i : Int) : asOI (.int i) = .ok (some i) := id rfl
theorem c_part (m : M (M D)) (ρ : En) (k : Option Int → En → Res β) : cps (ePart m) ρ k = cps m ρ fun l ρ1 => cps l ρ1 fun d ρ2 => (asOI d).bind fun o => k o ρ2 := by
  unfold ePart
  rw [cps_bind]; congr 1; funext l ρ1; rw [cps_bind]; congr 1; funext d ρ2; rw [cps_lift]; cases d <;> rfl
theorem c_rg1 (m : M (M D)) (ρ : En) (k : Int × Int → En → Res β) : cps (eRg1 m) ρ k = cps m ρ fun l ρ1 => cps l ρ1 fun d ρ2 => (asI d).bind fun n => k (0, n) ρ2 := by
  unfold eRg1; rw [cps_bind]; congr 1; funext l ρ1; rw [cps_bind]; congr 1; funext d ρ2; rw [cps_bind, cps_lift]; rfl
theorem c_rg2 (ma mb : M (M D)) (ρ : En) (k : Int × Int → En → Res β) : cps (eRg2 ma mb) ρ k = cps ma ρ fun la ρ1 => cps mb ρ1 fun lb ρ2 => cps la ρ2 fun d ρ3 => cps lb ρ3 fun e ρ4 => (asI d).bind fun n => (asI e).bind fun m => k (n, m) ρ4 := by
  unfold eRg2; rw [cps_bind]; congr 1; funext la ρ1; rw [cps_bind]; congr 1; funext lb ρ2; rw [cps_bind]; congr 1; funext d ρ3; rw [cps_bind]; congr 1; funext e ρ4; rw [cps_bind, cps_lift]; congr 1; funext n; rw [cps_bind, cps_lift]; rfl
theorem c_lift {α γ : Type} (m : M α) (g : α → Res γ) (ρ : En) (k : γ → En → Res β) : cps (m >>= fun d => M.lift (g d)) ρ k = cps m ρ fun a ρ1 => (g a).bind fun x => k x ρ1 := by
  rw [cps_bind]; congr 1; funext a ρ1; rw [cps_lift]
theorem c_lift2 {α δ γ : Type} (m : M α) (m2 : M δ) (g : α → δ → Res γ) (ρ : En) (k : γ → En → Res β) : cps (m >>= fun d => m2 >>= fun e => M.lift (g d e)) ρ k = cps m ρ fun a ρ1 => cps m2 ρ1 fun b ρ2 => (g a b).bind fun x => k x ρ2 := by
  rw [cps_bind]; congr 1; funext a ρ1; rw [cps_bind]; congr 1; funext b ρ2; rw [cps_lift]
theorem c_call (f : List D → Res D) (ms : M (List D)) (ρ : En) (k : D → En → Res β) : cps (eCall f ms) ρ k = cps ms ρ fun ds ρ1 => (f ds).bind fun x => k x ρ1 := by
  unfold eCall; rw [cps_bind]; congr 1; funext ds ρ1; rw [cps_lift]
theorem c_callO (f : List D → Res (List D)) (ms : M (List D)) (ρ : En) (k : List D → En → Res β) : cps (eCallO f ms) ρ k = cps ms ρ fun ds ρ1 => (nxR (f ds)).bind fun x => k x ρ1 := by
  unfold eCallO; rw [cps_bind]; congr 1; funext ds ρ1; rw [cps_lift]; cases f ds <;> rfl
theorem c_callSV (i : Nat) (f : List Int → List D → Res D) (ms : M (List D)) (ρ : En) (k : D → En → Res β) : cps (eCallSV i f ms) ρ k = cps (scrAt i) ρ fun ns ρ0 => cps ms ρ0 fun ds ρ1 => (nxR (f ns ds)).bind fun x => k x ρ1 := by
  unfold eCallSV; rw [cps_bind]; congr 1; funext ns ρ0; rw [cps_bind]; congr 1; funext ds ρ1; rw [cps_lift]; cases f ns ds <;> rfl
theorem c_callSO (i : Nat) (f : List Int → List D → Res (List D)) (ms : M (List D)) (ρ : En) (k : List D → En → Res β) : cps (eCallSO i f ms) ρ k = cps (scrAt i) ρ fun ns ρ0 => cps ms ρ0 fun ds ρ1 => (nxR (f ns ds)).bind fun x => k x ρ1 := by
  unfold eCallSO; rw [cps_bind]; congr 1; funext ns ρ0; rw [cps_bind]; congr 1; funext ds ρ1; rw [cps_lift]; cases f ns ds <;> rfl
theorem c_lenS (i : Nat) (ρ : En) (k : D → En → Res β) : cps (eLenS i) ρ k = cps (scrAt i) ρ fun ns ρ1 => k (.int ns.length) ρ1 := by unfold eLenS; rw [cps_bind]; rfl
theorem c_ixS (i : Nat) (mb : M (M D)) (ρ : En) (k : D → En → Res β) : cps (eIxS i mb) ρ k = cps (scrAt i) ρ fun ns ρ0 => cps mb ρ0 fun l ρ1 => cps l ρ1 fun d ρ2 => (asI d).bind fun j => (atS ns j).bind fun x => k x ρ2 := by
  unfold eIxS; rw [cps_bind]; congr 1; funext ns ρ0; rw [cps_bind]; congr 1; funext l ρ1; rw [cps_bind]; congr 1; funext d ρ2; rw [cps_bind, cps_lift]; congr 1; funext j; rw [cps_lift]
theorem c_callR (i : Nat) (f : List D → List D → Res (D × List D)) (ms : M (List D)) (ρ : En) (k : D → En → Res β) : cps (eCallR i f ms) ρ k = cps (isO i) ρ fun _ ρ0 => cps ms ρ0 fun ds ρ1 => cps (callO i f ds) ρ1 k := by
  unfold eCallR; rw [cps_bind]; congr 1; funext _ ρ0; rw [cps_bind]
theorem c_popAt (i : Nat) (m : M D) (ρ : En) (k : D → En → Res β) : cps (ePopAt i m) ρ k = cps (isO i) ρ fun _ ρ0 => cps m ρ0 fun j ρ1 => cps (popAtO i j) ρ1 k := by
  unfold ePopAt; rw [cps_bind]; congr 1; funext _ ρ0; rw [cps_bind]
def getDC (o : Option D) (ρ : En) (k : D → En → Res β) : Res β := match o with
  | some d => k d ρ
  | none => .bad
def someR (o : Option D) : Res D := match o with
  | some d => .ok d
  | none => .bad
theorem someR_some (d : D) : someR (some d) = .ok d := id rfl
theorem c_getD (i : Nat) (mk : M (M D)) (ρ : En) (k : D → En → Res β) : cps (eGetD i mk) ρ k = cps (isDI i) ρ fun _ ρ0 => cps mk ρ0 fun l ρ1 => cps l ρ1 fun j ρ2 => cps (getDI i j) ρ2 fun o ρ3 => (someR o).bind fun d => k d ρ3 := by
  unfold eGetD; rw [cps_bind]; congr 1; funext _ ρ0; rw [cps_bind]; congr 1; funext l ρ1; rw [cps_bind]; congr 1; funext j ρ2; rw [cps_bind]; congr 1; funext o ρ3; cases o <;> rfl
theorem c_inD (neg : Bool) (i : Nat) (mk : M (M D)) (ρ : En) (k : D → En → Res β) : cps (eInD neg i mk) ρ k = cps mk ρ fun l ρ0 => cps (isDI i) ρ0 fun _ ρ1 => cps l ρ1 fun j ρ2 => cps (getDI i j) ρ2 fun o ρ3 => k (.bool (if neg then !o.isSome else o.isSome)) ρ3 := by
  unfold eInD; rw [cps_bind]; congr 1; funext l ρ0; rw [cps_bind]; congr 1; funext _ ρ1; rw [cps_bind]; congr 1; funext j ρ2; rw [cps_bind]; congr 1
theorem c_inDf (i : Nat) (mk : M (M D)) (ρ : En) (k : D → En → Res β) : cps (eInD false i mk) ρ k = cps mk ρ fun l ρ0 => cps (isDI i) ρ0 fun _ ρ1 => cps l ρ1 fun j ρ2 => cps (getDI i j) ρ2 fun o ρ3 => k (.bool o.isSome) ρ3 := c_inD false i mk ρ k
theorem c_inDt (i : Nat) (mk : M (M D)) (ρ : En) (k : D → En → Res β) : cps (eInD true i mk) ρ k = cps mk ρ fun l ρ0 => cps (isDI i) ρ0 fun _ ρ1 => cps l ρ1 fun j ρ2 => cps (getDI i j) ρ2 fun o ρ3 => k (.bool (!o.isSome)) ρ3 := c_inD true i mk ρ k
def lcIn (vs : List Nat) (bd : D → M Unit) (mt : M Bool) (me : M D) (ds : List D) : M (List D) := fun ρ1 => if noOwn ρ1 vs = true ∧ ds.length ≤ sizeLine then (lcGo vs bd mt me ds (wipeE ρ1 vs)).bind fun p => .ok (p.1, restE ρ1 p.2 vs) else .bad
theorem c_lc (vs : List Nat) (mi : M (List D)) (bd : D → M Unit) (mt : M Bool) (me : M D) (ρ : En) (k : List D → En → Res β) : cps (eLc vs mi bd mt me) ρ k = cps mi ρ fun ds ρ1 => cps (lcIn vs bd mt me ds) ρ1 k := by
  unfold eLc; rw [← cps_bind]; rfl
theorem c_sv_nil (ρ : En) (k : Unit → En → Res β) : cps (setVs [] []) ρ k = k () ρ := id rfl
theorem c_sv_cons (i : Nat) (is : List Nat) (d : D) (ds : List D) (ρ : En) (k : Unit → En → Res β) : cps (setVs (i :: is) (d :: ds)) ρ k = cps (setV i d) ρ fun _ ρ1 => cps (setVs is ds) ρ1 k := by
  show cps (setV i d >>= fun _ => setVs is ds) ρ k = _
  rw [cps_bind]
def asT2 : D → Res (D × D)
  | .tuple [a, b] => .ok (a, b)
  | .list [a, b] => .ok (a, b)
  | _ => .bad
def asT3 : D → Res (D × D × D)
  | .tuple [a, b, c] => .ok (a, b, c)
  | .list [a, b, c] => .ok (a, b, c)
  | _ => .bad
theorem asT2_l (a b : D) : asT2 (.list [a, b]) = .ok (a, b) := id rfl
theorem asT3_l (a b c : D) : asT3 (.list [a, b, c]) = .ok (a, b, c) := id rfl
theorem asT2_t (a b : D) : asT2 (.tuple [a, b]) = .ok (a, b) := id rfl
theorem asT3_t (a b c : D) : asT3 (.tuple [a, b, c]) = .ok (a, b, c) := id rfl
theorem setV_bad {α : Type} {i : Nat} {d : D} {f : Unit → M α} {ρ : En} (h : ∀ ρ, f () ρ = .bad) : (setV i d >>= f) ρ = .bad := by
  show (setV i d ρ).bind (fun p => f p.1 p.2) = _
  unfold setV
  split
  · exact h _
  · rfl
theorem cps_bad {α : Type} (ρ : En) (k : α → En → Res β) : cps (fun _ => .bad) ρ k = .bad := id rfl
theorem sv_more {i : Nat} {d : D} {g : M Unit} {ρ : En} {k : Unit → En → Res β} (h : ∀ ρ, g ρ = .bad) : cps (setV i d >>= fun _ => g) ρ k = .bad := by
  unfold cps
  rw [setV_bad (f := fun _ => g) h]; rfl
theorem c_bdT2 (i j : Nat) (d : D) (ρ : En) (k : Unit → En → Res β) : cps (bdT [i, j] d) ρ k = (asT2 d).bind fun x => cps (setV i x.1) ρ fun _ ρ1 => cps (setV j x.2) ρ1 k := by
  cases d with
  | tuple ds =>
    match ds with
    | [] => rfl
    | [a] => exact sv_more fun _ => rfl
    | [a, b] =>
      show cps (setV i a >>= fun _ => setV j b >>= fun _ => pure ()) ρ k = _
      rw [cps_bind]
      show _ = cps (setV i a) ρ fun _ ρ1 => cps (setV j b) ρ1 k
      congr 1; funext _ ρ1
      rw [cps_bind]; rfl
    | a :: b :: c :: ds => exact sv_more fun ρ => setV_bad fun _ => rfl
  | list ds =>
    match ds with
    | [] => rfl
    | [a] => exact sv_more fun _ => rfl
    | [a, b] =>
      show cps (setV i a >>= fun _ => setV j b >>= fun _ => pure ()) ρ k = _
      rw [cps_bind]
      show _ = cps (setV i a) ρ fun _ ρ1 => cps (setV j b) ρ1 k
      congr 1; funext _ ρ1
      rw [cps_bind]; rfl
    | a :: b :: c :: ds => exact sv_more fun ρ => setV_bad fun _ => rfl
  | _ => rfl
theorem c_bdT3 (i j l : Nat) (d : D) (ρ : En) (k : Unit → En → Res β) : cps (bdT [i, j, l] d) ρ k = (asT3 d).bind fun x => cps (setV i x.1) ρ fun _ ρ1 => cps (setV j x.2.1) ρ1 fun _ ρ2 => cps (setV l x.2.2) ρ2 k := by
  cases d with
  | tuple ds =>
    match ds with
    | [] => rfl
    | [a] => exact sv_more fun _ => rfl
    | [a, b] => exact sv_more fun ρ => setV_bad fun _ => rfl
    | [a, b, c] =>
      show cps (setV i a >>= fun _ => setV j b >>= fun _ => setV l c >>= fun _ => pure ()) ρ k = _
      rw [cps_bind]
      show _ = cps (setV i a) ρ fun _ ρ1 => cps (setV j b) ρ1 fun _ ρ2 => cps (setV l c) ρ2 k
      congr 1; funext _ ρ1
      rw [cps_bind]; congr 1; funext _ ρ2
      rw [cps_bind]; rfl
    | a :: b :: c :: e :: ds => exact sv_more fun ρ => setV_bad fun ρ => setV_bad fun _ => rfl
  | list ds =>
    match ds with
    | [] => rfl
    | [a] => exact sv_more fun _ => rfl
    | [a, b] => exact sv_more fun ρ => setV_bad fun _ => rfl
    | [a, b, c] =>
      show cps (setV i a >>= fun _ => setV j b >>= fun _ => setV l c >>= fun _ => pure ()) ρ k = _
      rw [cps_bind]
      show _ = cps (setV i a) ρ fun _ ρ1 => cps (setV j b) ρ1 fun _ ρ2 => cps (setV l c) ρ2 k
      congr 1; funext _ ρ1
      rw [cps_bind]; congr 1; funext _ ρ2
      rw [cps_bind]; rfl
    | a :: b :: c :: e :: ds => exact sv_more fun ρ => setV_bad fun ρ => setV_bad fun _ => rfl
  | _ => rfl
end
/-! ### operations on own lists and dicts -/
def appR (ds : List D) (d : D) : Res (List D) := if ds.length < sizeLine then .ok (ds ++ [d]) else .bad
def extR (ds : List D) (d : D) : Res (List D) := match d with
  | .list es => if ds.length + es.length ≤ sizeLine then .ok (ds ++ es) else .bad
  | _ => .bad
def setR (ds : List D) (k d : D) : Res (List D) := match k with
  | .int k => match ixN ds.length k with
    | some j => .ok (ds.set j d)
    | none => .bad
  | _ => .bad
def popR (ds : List D) : Res (D × List D) := match ds[ds.length - 1]? with
  | some d => .ok (d, ds.dropLast)
  | none => .bad
def popAtR (ds : List D) (k : D) : Res (D × List D) := match k with
  | .int k => if -(2 ^ 63) ≤ k ∧ k < 2 ^ 63 then match seqIndex? k ds.length with
    | some j => match ds[j]? with
      | some d => .ok (d, ds.eraseIdx j)
      | none => .bad
    | none => .bad else .bad
  | _ => .bad
abbrev DT := List (List Key × D)
abbrev DK := List (Key × D)
def getTR (kvs : DT) (k : D) : Res (Option D) := match keyT k with
  | some k => .ok (valD kvs k)
  | none => .bad
def getKR (kvs : DK) (k : D) : Res (Option D) := match keyO k with
  | some k => .ok (valD kvs k)
  | none => .bad
def putTR (kvs : DT) (k d : D) : Res DT := match keyT k with
  | some k => if kvs.length < sizeLine then .ok (putD kvs k d) else .bad
  | none => .bad
def putKR (kvs : DK) (k d : D) : Res DK := match keyO k with
  | some k => if kvs.length < sizeLine then .ok (putD kvs k d) else .bad
  | none => .bad
def sortKR (kvs : DK) : Res (List D) := sortDK (.dK kvs)


/-! ### loops -/
section
variable {β S R : Type} {bd : D → M Unit} {body : M Fl} {vs : List Nat} {mt : M Bool} {me : M D}
theorem fg_cons (d : D) (ds : List D) (ρ : En) (k : Fl → En → Res β) : cps (forGo bd body (d :: ds)) ρ k = cps (bd d) ρ fun _ ρ1 => cps body ρ1 fun f ρ2 => match f with
    | .nx => cps (forGo bd body ds) ρ2 k
    | .ct => cps (forGo bd body ds) ρ2 k
    | .bk => k .nx ρ2
    | .rt d => k (.rt d) ρ2
    | .ro d => k (.ro d) ρ2 := by
  show cps (bd d >>= fun _ => body >>= fun f => _) ρ k = _
  rw [cps_bind]; congr 1; funext _ ρ1; rw [cps_bind]; congr 1; funext f ρ2
  cases f <;> rfl
theorem c_fold (env : S → En) (step : D → S → Res S) (h : ∀ (d : D) (s : S) {γ : Type} (k : Fl → En → Res γ), (cps (bd d) (env s) fun _ ρ1 => cps body ρ1 k) = (step d s).bind fun s' => k .nx (env s')) : ∀ (ds : List D) (s : S) (k : Fl → En → Res β), cps (forGo bd body ds) (env s) k = (foldR step ds s).bind fun s' => k .nx (env s')
  | [], s, k => rfl
  | d :: ds, s, k => by
    rw [fg_cons, h d s]
    show _ = ((step d s).bind fun s' => foldR step ds s').bind _
    rw [Res.assoc]
    congr 1; funext s'
    exact c_fold env step h ds s' k
theorem c_forR (env : S → En) (en : R → Fl) (enE : R → En) (hen : ∀ r, en r ≠ .nx ∧ en r ≠ .ct ∧ en r ≠ .bk) (step : D → S → Res (Lp S R)) (h : ∀ (d : D) (s : S) {γ : Type} (k : Fl → En → Res γ), (cps (bd d) (env s) fun _ ρ1 => cps body ρ1 k) = (step d s).bind fun o => lpK o (fun s' => k .nx (env s')) fun r => k (en r) (enE r)) : ∀ (ds : List D) (s : S) (k : Fl → En → Res β), cps (forGo bd body ds) (env s) k = (forR step ds s).bind fun o => lpK o (fun s' => k .nx (env s')) fun r => k (en r) (enE r)
  | [], s, k => rfl
  | d :: ds, s, k => by
    rw [fg_cons, h d s]
    show _ = ((step d s).bind fun o => lpK o (fun s' => forR step ds s') fun r => .ok (.rt r)).bind _
    rw [Res.assoc]
    congr 1; funext o
    cases o with
    | nx s' => exact c_forR env en enE hen step h ds s' k
    | rt r =>
      have := hen r
      show (match en r with
        | .nx => cps (forGo bd body ds) (enE r) k
        | .ct => cps (forGo bd body ds) (enE r) k
        | .bk => k .nx (enE r)
        | .rt d => k (.rt d) (enE r)
        | .ro d => k (.ro d) (enE r)) = k (en r) (enE r)
      cases e : en r with
      | nx => exact absurd e this.1
      | ct => exact absurd e this.2.1
      | bk => exact absurd e this.2.2
      | rt d => rfl
      | ro d => rfl
theorem wh_succ (n : Nat) (ρ : En) (k : Fl → En → Res β) : cps (whGo mt body (n + 1)) ρ k = cps mt ρ fun c ρ1 => bIf c (cps body ρ1 fun f ρ2 => match f with
    | .nx => cps (whGo mt body n) ρ2 k
    | .ct => cps (whGo mt body n) ρ2 k
    | .bk => k .nx ρ2
    | .rt d => k (.rt d) ρ2
    | .ro d => k (.ro d) ρ2) (k .nx ρ1) := by
  show cps (mt >>= fun c => _) ρ k = _
  rw [cps_bind]; congr 1; funext c ρ1
  cases c with
  | false => rfl
  | true =>
    rw [if_pos rfl, bIf_t, cps_bind]; congr 1; funext f ρ2
    cases f <;> rfl
theorem c_while (env : S → En) (t : S → Res Bool) (step : S → Res S) (ht : ∀ (s : S) {γ : Type} (k : Bool → En → Res γ), cps mt (env s) k = (t s).bind fun c => k c (env s)) (h : ∀ (s : S) {γ : Type} (k : Fl → En → Res γ), cps body (env s) k = (step s).bind fun s' => k .nx (env s')) : ∀ (n : Nat) (s : S) (k : Fl → En → Res β), cps (whGo mt body n) (env s) k = (whR t step n s).bind fun s' => k .nx (env s')
  | 0, s, k => rfl
  | n + 1, s, k => by
    rw [wh_succ, ht]
    show _ = ((t s).bind fun c => bIf c ((step s).bind fun s' => whR t step n s') (.ok s)).bind _
    rw [Res.assoc]
    congr 1; funext c
    cases c with
    | false => rfl
    | true =>
      rw [bIf_t, bIf_t, h, Res.assoc]
      congr 1; funext s'
      exact c_while env t step ht h n s' k
theorem lcGo_cons {d : D} {ds : List D} {ρ : En} : lcGo vs bd mt me (d :: ds) ρ = (bd d ρ).bind fun p => (nx mt p.2).bind fun b => bIf b.1 ((nx me b.2).bind fun y => (lcGo vs bd mt me ds (wipeE y.2 vs)).bind fun ys => .ok (y.1 :: ys.1, ys.2)) (lcGo vs bd mt me ds (wipeE b.2 vs)) := by
  show (bd d ρ).bind (fun p => (nx mt p.2).bind fun b => ((if b.1 = true then nx me >>= fun y => clr vs >>= fun _ => lcGo vs bd mt me ds >>= fun ys => pure (y :: ys) else clr vs >>= fun _ => lcGo vs bd mt me ds) : M (List D)) b.2) = _
  congr 1; funext p; congr 1; funext b
  cases b.1 <;> rfl
theorem nx_nxR {α : Type} (m : M α) (ρ : En) : nx m ρ = nxR (m ρ) := by unfold nx nxR; cases m ρ <;> rfl
theorem nx_yes (ρ : En) : nx mYes ρ = .ok (true, ρ) := id rfl
theorem exc_of {α γ : Type} {r : Res α} {f : α → γ} {c : Str} (h : r.bind (fun a => Res.ok (f a)) = .exc c) : r = .exc c := by
  cases r with
  | ok a => cases h
  | bad => cases h
  | exc c' => exact congrArg _ (by injection h)
theorem bad_of {α γ : Type} {r : Res α} {f : α → γ} (h : r.bind (fun a => Res.ok (f a)) = .bad) : r = .bad := by
  cases r with
  | ok a => cases h
  | bad => rfl
  | exc c' => cases h
/-- a comprehension that leaves the state as it is -/
theorem c_lcR {f : D → Res D} {ds : List D} {ρ env0 : En} (hn : noOwn ρ vs = true) (h0 : wipeE ρ vs = env0) (hr : restE ρ env0 vs = ρ) (hx : ∀ d ρ c, bd d ρ ≠ .exc c) (he : ∀ (d : D) {γ : Type} (k : D → En → Res γ), (cps (bd d) env0 fun _ ρ1 => cps me ρ1 fun y ρ2 => k y (wipeE ρ2 vs)) = (f d).bind fun y => k y env0) (k : List D → En → Res β) : cps (lcIn vs bd mYes me ds) ρ k = (lcR f ds).bind fun l => k l ρ := by
  have key : ∀ ds : List D, lcGo vs bd mYes me ds env0 = (lcGoR f ds).bind fun l => .ok (l, env0) := by
    intro ds
    induction ds with
    | nil => rfl
    | cons d ds ih =>
      rw [lcGo_cons]
      have h1 := he d (fun y ρ2 => Res.ok (y, ρ2))
      unfold cps at h1
      unfold lcGoR
      cases eb : bd d env0 with
      | exc c => exact absurd eb (hx d env0 c)
      | bad =>
        rw [eb] at h1
        rw [bad_of h1.symm]; rfl
      | ok p =>
        rw [eb] at h1
        simp only [rb_ok, nx_yes, bIf_t] at h1 ⊢; rw [nx_nxR]
        cases em : me p.2 with
        | exc c =>
          rw [em] at h1
          rw [exc_of h1.symm]; rfl
        | bad =>
          rw [em] at h1
          rw [bad_of h1.symm]; rfl
        | ok q =>
          rw [em] at h1
          simp only [rb_ok] at h1
          cases ef : f d with
          | exc c => rw [ef] at h1; cases h1
          | bad => rw [ef] at h1; cases h1
          | ok y =>
            rw [ef] at h1
            simp only [rb_ok] at h1
            injection h1 with h1
            injection h1 with h2 h3
            simp only [nxR_ok, rb_ok, h3, ih, Res.assoc, h2]
  unfold cps lcIn lcR
  rw [h0]
  by_cases hl : ds.length ≤ sizeLine
  · rw [if_pos ⟨hn, hl⟩, if_pos hl, key, Res.assoc, Res.assoc]
    congr 1; funext l
    rw [rb_ok, rb_ok, hr]
  · rw [if_neg fun z => hl z.2, if_neg hl]; rfl
/-- with a test -/
theorem c_lcTR {t : D → Res Bool} {f : D → Res D} {ds : List D} {ρ env0 : En} (hn : noOwn ρ vs = true) (h0 : wipeE ρ vs = env0) (hr : restE ρ env0 vs = ρ) (hx : ∀ d ρ c, bd d ρ ≠ .exc c)
    (ht : ∀ (d : D) {γ : Type} (k : Bool → En → Res γ), (cps (bd d) env0 fun _ ρ1 => cps mt ρ1 fun y ρ2 => k y (wipeE ρ2 vs)) = (t d).bind fun y => k y env0)
    (he : ∀ (d : D) {γ : Type} (k : D → En → Res γ), (cps (bd d) env0 fun _ ρ1 => cps mt ρ1 fun _ ρ2 => cps me ρ2 fun y ρ3 => k y (wipeE ρ3 vs)) = (t d).bind fun _ => (f d).bind fun y => k y env0) (k : List D → En → Res β) : cps (lcIn vs bd mt me ds) ρ k = (lcTR t f ds).bind fun l => k l ρ := by
  have key : ∀ ds : List D, lcGo vs bd mt me ds env0 = (lcGoTR t f ds).bind fun l => .ok (l, env0) := by
    intro ds
    induction ds with
    | nil => rfl
    | cons d ds ih =>
      rw [lcGo_cons]
      have h1 := he d (fun y ρ2 => Res.ok (y, ρ2))
      have g1 := ht d (fun y ρ2 => Res.ok (y, ρ2))
      unfold cps at h1 g1
      unfold lcGoTR
      cases eb : bd d env0 with
      | exc c => exact absurd eb (hx d env0 c)
      | bad =>
        rw [eb] at g1
        rw [bad_of g1.symm]; rfl
      | ok p =>
        rw [eb] at h1 g1
        simp only [rb_ok, nx_nxR] at h1 g1 ⊢
        cases em : mt p.2 with
        | exc c =>
          rw [em] at g1
          rw [exc_of g1.symm]; rfl
        | bad =>
          rw [em] at g1
          rw [bad_of g1.symm]; rfl
        | ok b =>
          rw [em] at h1 g1
          simp only [rb_ok, nxR_ok] at h1 g1 ⊢
          cases et : t d with
          | exc c => rw [et] at g1; cases g1
          | bad => rw [et] at g1; cases g1
          | ok b' =>
            rw [et] at g1 h1
            simp only [rb_ok] at g1 h1
            injection g1 with g1
            injection g1 with g2 g3
            rw [nxR_ok, rb_ok, ← g2]
            cases hb : b.1 with
            | false => rw [bIf_f, bIf_f, g3, ih]
            | true =>
              rw [bIf_t, bIf_t]
              cases em2 : me b.2 with
              | exc c =>
                rw [em2] at h1
                rw [exc_of h1.symm]; rfl
              | bad =>
                rw [em2] at h1
                rw [bad_of h1.symm]; rfl
              | ok q =>
                rw [em2] at h1
                simp only [rb_ok] at h1
                cases ef : f d with
                | exc c => rw [ef] at h1; cases h1
                | bad => rw [ef] at h1; cases h1
                | ok y =>
                  rw [ef] at h1
                  simp only [rb_ok] at h1
                  injection h1 with h1
                  injection h1 with h2 h3
                  simp only [nxR_ok, rb_ok, h3, ih, Res.assoc, h2]
  unfold cps lcIn lcTR
  rw [h0]
  by_cases hl : ds.length ≤ sizeLine
  · rw [if_pos ⟨hn, hl⟩, if_pos hl, key, Res.assoc, Res.assoc]
    congr 1; funext l
    rw [rb_ok, rb_ok, hr]
  · rw [if_neg fun z => hl z.2, if_neg hl]; rfl
/-- a comprehension that changes the state -/
theorem c_lcSR {f : D → S → Res (D × S)} {ds : List D} (env env0 : S → En) (hn : ∀ s, noOwn (env s) vs = true) (h0 : ∀ s, wipeE (env s) vs = env0 s) (hr : ∀ s s', restE (env s) (env0 s') vs = env s') (hx : ∀ d ρ c, bd d ρ ≠ .exc c) (he : ∀ (d : D) (s : S) {γ : Type} (k : D → En → Res γ), (cps (bd d) (env0 s) fun _ ρ1 => cps me ρ1 fun y ρ2 => k y (wipeE ρ2 vs)) = (f d s).bind fun y => k y.1 (env0 y.2)) (s : S) (k : List D → En → Res β) : cps (lcIn vs bd mYes me ds) (env s) k = (lcSR f ds s).bind fun l => k l.1 (env l.2) := by
  have key : ∀ (ds : List D) (s : S), lcGo vs bd mYes me ds (env0 s) = (lcGoSR f ds s).bind fun l => .ok (l.1, env0 l.2) := by
    intro ds
    induction ds with
    | nil => exact fun s => rfl
    | cons d ds ih =>
      intro s
      rw [lcGo_cons]
      have h1 := he d s (fun y ρ2 => Res.ok (y, ρ2))
      unfold cps at h1
      unfold lcGoSR
      cases eb : bd d (env0 s) with
      | exc c => exact absurd eb (hx d _ c)
      | bad =>
        rw [eb] at h1
        rw [bad_of h1.symm]; rfl
      | ok p =>
        rw [eb] at h1
        simp only [rb_ok, nx_yes, bIf_t] at h1 ⊢; rw [nx_nxR]
        cases em : me p.2 with
        | exc c =>
          rw [em] at h1
          rw [exc_of h1.symm]; rfl
        | bad =>
          rw [em] at h1
          rw [bad_of h1.symm]; rfl
        | ok q =>
          rw [em] at h1
          simp only [rb_ok] at h1
          cases ef : f d s with
          | exc c => rw [ef] at h1; cases h1
          | bad => rw [ef] at h1; cases h1
          | ok y =>
            rw [ef] at h1
            simp only [rb_ok] at h1
            injection h1 with h1
            injection h1 with h2 h3
            simp only [nxR_ok, rb_ok, h3, ih, Res.assoc, h2]
  unfold cps lcIn lcSR
  rw [h0]
  by_cases hl : ds.length ≤ sizeLine
  · rw [if_pos ⟨hn s, hl⟩, if_pos hl, key, Res.assoc, Res.assoc]
    congr 1; funext l
    rw [rb_ok, rb_ok, hr]
  · rw [if_neg fun z => hl z.2, if_neg hl]; rfl
/-- with a test, changing the state -/
theorem c_lcOR {f : D → S → Res (Option D × S)} {ds : List D} (env env0 : S → En) (hn : ∀ s, noOwn (env s) vs = true) (h0 : ∀ s, wipeE (env s) vs = env0 s) (hr : ∀ s s', restE (env s) (env0 s') vs = env s') (hx : ∀ d ρ c, bd d ρ ≠ .exc c) (he : ∀ (d : D) (s : S) {γ : Type} (k : Option D → En → Res γ), (cps (bd d) (env0 s) fun _ ρ1 => cps mt ρ1 fun b ρ2 => bIf b (cps me ρ2 fun y ρ3 => k (some y) (wipeE ρ3 vs)) (k none (wipeE ρ2 vs))) = (f d s).bind fun y => k y.1 (env0 y.2)) (s : S) (k : List D → En → Res β) : cps (lcIn vs bd mt me ds) (env s) k = (lcOR f ds s).bind fun l => k l.1 (env l.2) := by
  have key : ∀ (ds : List D) (s : S), lcGo vs bd mt me ds (env0 s) = (lcGoOR f ds s).bind fun l => .ok (l.1, env0 l.2) := by
    intro ds
    induction ds with
    | nil => exact fun s => rfl
    | cons d ds ih =>
      intro s
      rw [lcGo_cons]
      have h1 := he d s (fun y ρ2 => Res.ok (y, ρ2))
      unfold cps at h1
      unfold lcGoOR
      cases eb : bd d (env0 s) with
      | exc c => exact absurd eb (hx d _ c)
      | bad =>
        rw [eb] at h1
        rw [bad_of h1.symm]; rfl
      | ok p =>
        rw [eb] at h1
        simp only [rb_ok] at h1 ⊢
        rw [nx_nxR]
        cases emt : mt p.2 with
        | exc c =>
          rw [emt] at h1
          rw [exc_of h1.symm]; rfl
        | bad =>
          rw [emt] at h1
          rw [bad_of h1.symm]; rfl
        | ok b =>
          rw [emt] at h1
          simp only [rb_ok, nxR_ok] at h1 ⊢
          cases hb : b.1 with
          | false =>
            rw [hb] at h1
            simp only [bIf_f] at h1 ⊢
            cases ef : f d s with
            | exc c => rw [ef] at h1; cases h1
            | bad => rw [ef] at h1; cases h1
            | ok y =>
              rw [ef] at h1
              simp only [rb_ok] at h1
              injection h1 with h1
              injection h1 with h2 h3
              simp only [nxR_ok, rb_ok, h3, ih, Res.assoc, ← h2, consO]
          | true =>
            rw [hb] at h1
            simp only [bIf_t] at h1 ⊢
            rw [nx_nxR]
            cases em : me b.2 with
            | exc c =>
              rw [em] at h1
              rw [exc_of h1.symm]; rfl
            | bad =>
              rw [em] at h1
              rw [bad_of h1.symm]; rfl
            | ok q =>
              rw [em] at h1
              simp only [rb_ok] at h1
              cases ef : f d s with
              | exc c => rw [ef] at h1; cases h1
              | bad => rw [ef] at h1; cases h1
              | ok y =>
                rw [ef] at h1
                simp only [rb_ok] at h1
                injection h1 with h1
                injection h1 with h2 h3
                simp only [nxR_ok, rb_ok, h3, ih, Res.assoc, ← h2, consO]
  unfold cps lcIn lcOR
  rw [h0]
  by_cases hl : ds.length ≤ sizeLine
  · rw [if_pos ⟨hn s, hl⟩, if_pos hl, key, Res.assoc, Res.assoc]
    congr 1; funext l
    rw [rb_ok, rb_ok, hr]
  · rw [if_neg fun z => hl z.2, if_neg hl]; rfl
end


section
variable {β : Type} {ρ : En} {i : Nat} {d e : D} {ds es : List D} {kt : DT} {kk : DK}
theorem st_at {ρ ρ' : En} {i : Nat} {a : Sl} {β : Type} {k : Unit → En → Res β} (h : (if i < ρ.length then some (ρ.set i a) else none) = some ρ') : ((if i < ρ.length then Res.ok ((), ρ.set i a) else .bad).bind fun p => k p.1 p.2) = k () ρ' := by
  by_cases hh : i < ρ.length
  · rw [if_pos hh] at h ⊢; injection h with h; rw [rb_ok, h]
  · rw [if_neg hh] at h; cases h
theorem ap_at {ρ2 : List D → En} {k : Unit → En → Res β} (h : ρ[i]? = some (.own ds)) (h2 : (fun l => ρ.set i (.own l)) = ρ2) : cps (appO i d) ρ k = (appR ds d).bind fun l => k () (ρ2 l) := by
  unfold cps appO appR; rw [h, ← h2]; show (if _ then _ else _ : Res (Unit × En)).bind _ = _; split <;> rfl
theorem ex_at {ρ2 : List D → En} {k : Unit → En → Res β} (h : ρ[i]? = some (.own ds)) (h2 : (fun l => ρ.set i (.own l)) = ρ2) : cps (extO i d) ρ k = (extR ds d).bind fun l => k () (ρ2 l) := by
  unfold cps extO extR; rw [h, ← h2]
  cases d with
  | list es => show (if _ then _ else _ : Res (Unit × En)).bind _ = _; simp only; split <;> rfl
  | _ => rfl
theorem sx_at {ρ2 : List D → En} {k : Unit → En → Res β} (h : ρ[i]? = some (.own ds)) (h2 : (fun l => ρ.set i (.own l)) = ρ2) : cps (setIxO i d e) ρ k = (setR ds d e).bind fun l => k () (ρ2 l) := by
  unfold cps setIxO setR; rw [h, ← h2]
  cases d with
  | int j => simp only; cases ixN ds.length j <;> rfl
  | _ => rfl
theorem po_at {ρ2 : List D → En} {k : D → En → Res β} (h : ρ[i]? = some (.own ds)) (h2 : (fun l => ρ.set i (.own l)) = ρ2) : cps (popO i) ρ k = (popR ds).bind fun l => k l.1 (ρ2 l.2) := by
  unfold cps popO popR; rw [h, ← h2]; simp only; cases ds[ds.length - 1]? <;> rfl
theorem pa_at {ρ2 : List D → En} {k : D → En → Res β} (h : ρ[i]? = some (.own ds)) (h2 : (fun l => ρ.set i (.own l)) = ρ2) : cps (popAtO i d) ρ k = (popAtR ds d).bind fun l => k l.1 (ρ2 l.2) := by
  unfold cps popAtO popAtR; rw [h, ← h2]
  cases d with
  | int j =>
    simp only
    split
    · cases seqIndex? j ds.length with
      | none => rfl
      | some m => simp only; cases ds[m]? <;> rfl
    · rfl
  | _ => rfl
theorem gt_at {ρ2 : En} {k : Option D → En → Res β} (h : ρ[i]? = some (.dT kt)) (h2 : ρ = ρ2) : cps (getDI i d) ρ k = (getTR kt d).bind fun l => k l ρ2 := by
  subst h2
  unfold cps getDI getTR; rw [h]; simp only [getS]; cases keyT d <;> rfl
theorem gk_at {ρ2 : En} {k : Option D → En → Res β} (h : ρ[i]? = some (.dK kk)) (h2 : ρ = ρ2) : cps (getDI i d) ρ k = (getKR kk d).bind fun l => k l ρ2 := by
  subst h2
  unfold cps getDI getKR; rw [h]; simp only [getS]; cases keyO d <;> rfl
theorem pt_at {ρ2 : DT → En} {k : Unit → En → Res β} (h : ρ[i]? = some (.dT kt)) (h2 : (fun l => ρ.set i (.dT l)) = ρ2) : cps (putDI i d e) ρ k = (putTR kt d e).bind fun l => k () (ρ2 l) := by
  unfold cps putDI putTR; rw [h, ← h2]; simp only [putS]
  cases keyT d with
  | none => rfl
  | some q => simp only; split <;> rfl
theorem pk_at {ρ2 : DK → En} {k : Unit → En → Res β} (h : ρ[i]? = some (.dK kk)) (h2 : (fun l => ρ.set i (.dK l)) = ρ2) : cps (putDI i d e) ρ k = (putKR kk d e).bind fun l => k () (ρ2 l) := by
  unfold cps putDI putKR; rw [h, ← h2]; simp only [putS]
  cases keyO d with
  | none => rfl
  | some q => simp only; split <;> rfl
theorem so_at {k : List D → En → Res β} (h : ρ[i]? = some (.dK kk)) : cps (eSortD i) ρ k = (sortKR kk).bind fun l => k l ρ := by
  unfold cps eSortD sortKR; rw [h]; simp only; rw [Res.assoc]; rfl
theorem sot_at {k : List D → En → Res β} (h : ρ[i]? = some (.dT kt)) : cps (eSortT i) ρ k = (sortTR kt).bind fun l => k l ρ := by
  unfold cps eSortT; rw [h]; simp only; rw [Res.assoc]; rfl
theorem lid_at {k : List D → En → Res β} (h : ρ[i]? = some (.dT kt)) : cps (eListD i) ρ k = (listDT kt).bind fun l => k l ρ := by
  unfold cps eListD; rw [h]; simp only; rw [Res.assoc]; rfl
theorem ca_at {f : List D → List D → Res (D × List D)} {ρ2 : List D → En} {k : D → En → Res β} (h : ρ[i]? = some (.own ds)) (h2 : (fun l => ρ.set i (.own l)) = ρ2) : cps (callO i f es) ρ k = (nxR (f ds es)).bind fun l => k l.1 (ρ2 l.2) := by
  unfold cps callO; rw [h, ← h2]; simp only; cases f ds es <;> rfl
end


section
variable {β : Type} {l : List D} {d : D} {b : Bool} {i : Int} {T : String} {Ts : List String}
theorem p_lenl (k : D → Res β) : (gLen (.list l)).bind k = k (.int l.length) := id rfl
theorem p_lent (k : D → Res β) : (gLen (.tuple l)).bind k = k (.int l.length) := id rfl
theorem p_asSl (k : List D → Res β) : (asS (.list l)).bind k = k l := id rfl
theorem p_asSt (k : List D → Res β) : (asS (.tuple l)).bind k = k l := id rfl
theorem p_tupl (k : D → Res β) : (gTup (.list l)).bind k = k (.tuple l) := id rfl
theorem p_listl (k : List D → Res β) : (gList (.list l)).bind k = k l := id rfl
theorem p_listt (k : List D → Res β) : (gList (.tuple l)).bind k = k l := id rfl
theorem p_asI (k : Int → Res β) : (asI (.int i)).bind k = k i := id rfl
theorem p_asOI (k : Option Int → Res β) : (asOI (.int i)).bind k = k (some i) := id rfl
theorem p_neg (k : D → Res β) : (dNeg (.int i)).bind k = k (.int (-i)) := id rfl
theorem p_isi (k : D → Res β) : (gIsi T d).bind k = k (.bool (isTy T d)) := id rfl
theorem p_isis (k : D → Res β) : (gIsis Ts d).bind k = k (.bool (isTys Ts d)) := id rfl
theorem p_isN (k : D → Res β) : (dIsN d).bind k = k (.bool (isNon d)) := id rfl
theorem p_notN (k : D → Res β) : (dNotN d).bind k = k (.bool (!isNon d)) := id rfl
theorem p_asB (k : Bool → Res β) : (asB (.bool b)).bind k = k b := id rfl
theorem p_int (k : D → Res β) : (gInt (.bool b)).bind k = k (.int (if b then 1 else 0)) := id rfl
theorem wipeE_n (ρ : En) : wipeE ρ [] = ρ := id rfl
theorem wipeE_c (ρ : En) (v : Nat) (vs : List Nat) : wipeE ρ (v :: vs) = (wipeE ρ vs).set v .emp := id rfl
theorem bIf_eq (c : Bool) (a b : Res β) : bIf c a b = if c = true then a else b := id rfl
end

section
variable {β : Type} {ρ : En} {d e : D} {ds es : List D} {kt : DT} {kk : DK} {ns : List Int} {g : M Fl} {fz wp : List Nat} {s0 s1 s2 s3 s4 s5 s6 s7 s8 s9 s10 s11 s12 s13 s14 s15 s16 s17 s18 s19 : Sl}
theorem f0_nmv (k : M D → En → Res β) : cps (eNm 0) (.val d :: ρ) k = k (eAt 0) (.val d :: ρ) := id rfl
theorem f0_nmo (k : M D → En → Res β) : cps (eNm 0) (.own ds :: ρ) k = k (eAt 0) (.own ds :: ρ) := id rfl
theorem f0_atv (k : D → En → Res β) : cps (eAt 0) (.val d :: ρ) k = k d (.val d :: ρ) := id rfl
theorem f0_ato (k : D → En → Res β) : cps (eAt 0) (.own ds :: ρ) k = k (.list ds) (.own ds :: ρ) := id rfl
theorem f0_vrv (k : D → En → Res β) : cps (eVar 0) (.val d :: ρ) k = k d (.val d :: ρ) := id rfl
theorem f0_vro (k : D → En → Res β) : cps (eVar 0) (.own ds :: ρ) k = k (.list ds) (.val (.list ds) :: ρ) := id rfl
theorem f0_iso (k : Unit → En → Res β) : cps (isO 0) (.own ds :: ρ) k = k () (.own ds :: ρ) := id rfl
theorem f0_isT (k : Unit → En → Res β) : cps (isDI 0) (.dT kt :: ρ) k = k () (.dT kt :: ρ) := id rfl
theorem f0_isK (k : Unit → En → Res β) : cps (isDI 0) (.dK kk :: ρ) k = k () (.dK kk :: ρ) := id rfl
theorem f0_stV (k : Unit → En → Res β) : cps (setV 0 d) (s0 :: ρ) k = k () (.val d :: ρ) := st_at (a := .val d) rfl
theorem f0_stO (k : Unit → En → Res β) : cps (setO 0 ds) (s0 :: ρ) k = k () (.own ds :: ρ) := st_at (a := .own ds) rfl
theorem f0_stS (s : Sl) (k : Unit → En → Res β) : cps (setS 0 s) (s0 :: ρ) k = k () (s :: ρ) := st_at (a := s) rfl
theorem f0_app (k : Unit → En → Res β) : cps (appO 0 d) (.own ds :: ρ) k = (appR ds d).bind fun l => k () (.own l :: ρ) := ap_at rfl rfl
theorem f0_ext (k : Unit → En → Res β) : cps (extO 0 d) (.own ds :: ρ) k = (extR ds d).bind fun l => k () (.own l :: ρ) := ex_at rfl rfl
theorem f0_six (k : Unit → En → Res β) : cps (setIxO 0 d e) (.own ds :: ρ) k = (setR ds d e).bind fun l => k () (.own l :: ρ) := sx_at rfl rfl
theorem f0_pop (k : D → En → Res β) : cps (popO 0) (.own ds :: ρ) k = (popR ds).bind fun l => k l.1 (.own l.2 :: ρ) := po_at rfl rfl
theorem f0_poa (k : D → En → Res β) : cps (popAtO 0 d) (.own ds :: ρ) k = (popAtR ds d).bind fun l => k l.1 (.own l.2 :: ρ) := pa_at rfl rfl
theorem f0_get (k : Option D → En → Res β) : cps (getDI 0 d) (.dT kt :: ρ) k = (getTR kt d).bind fun l => k l (.dT kt :: ρ) := gt_at rfl rfl
theorem f0_gek (k : Option D → En → Res β) : cps (getDI 0 d) (.dK kk :: ρ) k = (getKR kk d).bind fun l => k l (.dK kk :: ρ) := gk_at rfl rfl
theorem f0_put (k : Unit → En → Res β) : cps (putDI 0 d e) (.dT kt :: ρ) k = (putTR kt d e).bind fun l => k () (.dT l :: ρ) := pt_at rfl rfl
theorem f0_puk (k : Unit → En → Res β) : cps (putDI 0 d e) (.dK kk :: ρ) k = (putKR kk d e).bind fun l => k () (.dK l :: ρ) := pk_at rfl rfl
theorem f0_sok (k : List D → En → Res β) : cps (eSortD 0) (.dK kk :: ρ) k = (sortKR kk).bind fun l => k l (.dK kk :: ρ) := so_at rfl
theorem f0_sot (k : List D → En → Res β) : cps (eSortT 0) (.dT kt :: ρ) k = (sortTR kt).bind fun l => k l (.dT kt :: ρ) := sot_at rfl
theorem f0_lid (k : List D → En → Res β) : cps (eListD 0) (.dT kt :: ρ) k = (listDT kt).bind fun l => k l (.dT kt :: ρ) := lid_at rfl
theorem f0_cal (f : List D → List D → Res (D × List D)) (k : D → En → Res β) : cps (callO 0 f es) (.own ds :: ρ) k = (nxR (f ds es)).bind fun l => k l.1 (.own l.2 :: ρ) := ca_at rfl rfl
theorem f0_fz (k : Fl → En → Res β) : cps (sPre (0 :: fz) wp g) (.own ds :: ρ) k = cps (sPre fz wp g) (.val (.list ds) :: ρ) k := id rfl
theorem f0_wp (k : Fl → En → Res β) : cps (sPre [] (0 :: wp) g) (s0 :: ρ) k = cps (sPre [] wp g) (.emp :: ρ) k := id rfl
theorem f1_nmv (k : M D → En → Res β) : cps (eNm 1) (s0 :: .val d :: ρ) k = k (eAt 1) (s0 :: .val d :: ρ) := id rfl
theorem f1_nmo (k : M D → En → Res β) : cps (eNm 1) (s0 :: .own ds :: ρ) k = k (eAt 1) (s0 :: .own ds :: ρ) := id rfl
theorem f1_atv (k : D → En → Res β) : cps (eAt 1) (s0 :: .val d :: ρ) k = k d (s0 :: .val d :: ρ) := id rfl
theorem f1_ato (k : D → En → Res β) : cps (eAt 1) (s0 :: .own ds :: ρ) k = k (.list ds) (s0 :: .own ds :: ρ) := id rfl
theorem f1_vrv (k : D → En → Res β) : cps (eVar 1) (s0 :: .val d :: ρ) k = k d (s0 :: .val d :: ρ) := id rfl
theorem f1_vro (k : D → En → Res β) : cps (eVar 1) (s0 :: .own ds :: ρ) k = k (.list ds) (s0 :: .val (.list ds) :: ρ) := id rfl
theorem f1_iso (k : Unit → En → Res β) : cps (isO 1) (s0 :: .own ds :: ρ) k = k () (s0 :: .own ds :: ρ) := id rfl
theorem f1_isT (k : Unit → En → Res β) : cps (isDI 1) (s0 :: .dT kt :: ρ) k = k () (s0 :: .dT kt :: ρ) := id rfl
theorem f1_isK (k : Unit → En → Res β) : cps (isDI 1) (s0 :: .dK kk :: ρ) k = k () (s0 :: .dK kk :: ρ) := id rfl
theorem f1_stV (k : Unit → En → Res β) : cps (setV 1 d) (s0 :: s1 :: ρ) k = k () (s0 :: .val d :: ρ) := st_at (a := .val d) rfl
theorem f1_stO (k : Unit → En → Res β) : cps (setO 1 ds) (s0 :: s1 :: ρ) k = k () (s0 :: .own ds :: ρ) := st_at (a := .own ds) rfl
theorem f1_stS (s : Sl) (k : Unit → En → Res β) : cps (setS 1 s) (s0 :: s1 :: ρ) k = k () (s0 :: s :: ρ) := st_at (a := s) rfl
theorem f1_app (k : Unit → En → Res β) : cps (appO 1 d) (s0 :: .own ds :: ρ) k = (appR ds d).bind fun l => k () (s0 :: .own l :: ρ) := ap_at rfl rfl
theorem f1_ext (k : Unit → En → Res β) : cps (extO 1 d) (s0 :: .own ds :: ρ) k = (extR ds d).bind fun l => k () (s0 :: .own l :: ρ) := ex_at rfl rfl
theorem f1_six (k : Unit → En → Res β) : cps (setIxO 1 d e) (s0 :: .own ds :: ρ) k = (setR ds d e).bind fun l => k () (s0 :: .own l :: ρ) := sx_at rfl rfl
theorem f1_pop (k : D → En → Res β) : cps (popO 1) (s0 :: .own ds :: ρ) k = (popR ds).bind fun l => k l.1 (s0 :: .own l.2 :: ρ) := po_at rfl rfl
theorem f1_poa (k : D → En → Res β) : cps (popAtO 1 d) (s0 :: .own ds :: ρ) k = (popAtR ds d).bind fun l => k l.1 (s0 :: .own l.2 :: ρ) := pa_at rfl rfl
theorem f1_get (k : Option D → En → Res β) : cps (getDI 1 d) (s0 :: .dT kt :: ρ) k = (getTR kt d).bind fun l => k l (s0 :: .dT kt :: ρ) := gt_at rfl rfl
theorem f1_gek (k : Option D → En → Res β) : cps (getDI 1 d) (s0 :: .dK kk :: ρ) k = (getKR kk d).bind fun l => k l (s0 :: .dK kk :: ρ) := gk_at rfl rfl
theorem f1_put (k : Unit → En → Res β) : cps (putDI 1 d e) (s0 :: .dT kt :: ρ) k = (putTR kt d e).bind fun l => k () (s0 :: .dT l :: ρ) := pt_at rfl rfl
theorem f1_puk (k : Unit → En → Res β) : cps (putDI 1 d e) (s0 :: .dK kk :: ρ) k = (putKR kk d e).bind fun l => k () (s0 :: .dK l :: ρ) := pk_at rfl rfl
theorem f1_sok (k : List D → En → Res β) : cps (eSortD 1) (s0 :: .dK kk :: ρ) k = (sortKR kk).bind fun l => k l (s0 :: .dK kk :: ρ) := so_at rfl
theorem f1_sot (k : List D → En → Res β) : cps (eSortT 1) (s0 :: .dT kt :: ρ) k = (sortTR kt).bind fun l => k l (s0 :: .dT kt :: ρ) := sot_at rfl
theorem f1_lid (k : List D → En → Res β) : cps (eListD 1) (s0 :: .dT kt :: ρ) k = (listDT kt).bind fun l => k l (s0 :: .dT kt :: ρ) := lid_at rfl
theorem f1_cal (f : List D → List D → Res (D × List D)) (k : D → En → Res β) : cps (callO 1 f es) (s0 :: .own ds :: ρ) k = (nxR (f ds es)).bind fun l => k l.1 (s0 :: .own l.2 :: ρ) := ca_at rfl rfl
theorem f1_fz (k : Fl → En → Res β) : cps (sPre (1 :: fz) wp g) (s0 :: .own ds :: ρ) k = cps (sPre fz wp g) (s0 :: .val (.list ds) :: ρ) k := id rfl
theorem f1_wp (k : Fl → En → Res β) : cps (sPre [] (1 :: wp) g) (s0 :: s1 :: ρ) k = cps (sPre [] wp g) (s0 :: .emp :: ρ) k := id rfl
theorem f2_nmv (k : M D → En → Res β) : cps (eNm 2) (s0 :: s1 :: .val d :: ρ) k = k (eAt 2) (s0 :: s1 :: .val d :: ρ) := id rfl
theorem f2_nmo (k : M D → En → Res β) : cps (eNm 2) (s0 :: s1 :: .own ds :: ρ) k = k (eAt 2) (s0 :: s1 :: .own ds :: ρ) := id rfl
theorem f2_atv (k : D → En → Res β) : cps (eAt 2) (s0 :: s1 :: .val d :: ρ) k = k d (s0 :: s1 :: .val d :: ρ) := id rfl
theorem f2_ato (k : D → En → Res β) : cps (eAt 2) (s0 :: s1 :: .own ds :: ρ) k = k (.list ds) (s0 :: s1 :: .own ds :: ρ) := id rfl
theorem f2_vrv (k : D → En → Res β) : cps (eVar 2) (s0 :: s1 :: .val d :: ρ) k = k d (s0 :: s1 :: .val d :: ρ) := id rfl
theorem f2_vro (k : D → En → Res β) : cps (eVar 2) (s0 :: s1 :: .own ds :: ρ) k = k (.list ds) (s0 :: s1 :: .val (.list ds) :: ρ) := id rfl
theorem f2_iso (k : Unit → En → Res β) : cps (isO 2) (s0 :: s1 :: .own ds :: ρ) k = k () (s0 :: s1 :: .own ds :: ρ) := id rfl
theorem f2_isT (k : Unit → En → Res β) : cps (isDI 2) (s0 :: s1 :: .dT kt :: ρ) k = k () (s0 :: s1 :: .dT kt :: ρ) := id rfl
theorem f2_isK (k : Unit → En → Res β) : cps (isDI 2) (s0 :: s1 :: .dK kk :: ρ) k = k () (s0 :: s1 :: .dK kk :: ρ) := id rfl
theorem f2_stV (k : Unit → En → Res β) : cps (setV 2 d) (s0 :: s1 :: s2 :: ρ) k = k () (s0 :: s1 :: .val d :: ρ) := st_at (a := .val d) rfl
theorem f2_stO (k : Unit → En → Res β) : cps (setO 2 ds) (s0 :: s1 :: s2 :: ρ) k = k () (s0 :: s1 :: .own ds :: ρ) := st_at (a := .own ds) rfl
theorem f2_stS (s : Sl) (k : Unit → En → Res β) : cps (setS 2 s) (s0 :: s1 :: s2 :: ρ) k = k () (s0 :: s1 :: s :: ρ) := st_at (a := s) rfl
theorem f2_app (k : Unit → En → Res β) : cps (appO 2 d) (s0 :: s1 :: .own ds :: ρ) k = (appR ds d).bind fun l => k () (s0 :: s1 :: .own l :: ρ) := ap_at rfl rfl
theorem f2_ext (k : Unit → En → Res β) : cps (extO 2 d) (s0 :: s1 :: .own ds :: ρ) k = (extR ds d).bind fun l => k () (s0 :: s1 :: .own l :: ρ) := ex_at rfl rfl
theorem f2_six (k : Unit → En → Res β) : cps (setIxO 2 d e) (s0 :: s1 :: .own ds :: ρ) k = (setR ds d e).bind fun l => k () (s0 :: s1 :: .own l :: ρ) := sx_at rfl rfl
theorem f2_pop (k : D → En → Res β) : cps (popO 2) (s0 :: s1 :: .own ds :: ρ) k = (popR ds).bind fun l => k l.1 (s0 :: s1 :: .own l.2 :: ρ) := po_at rfl rfl
theorem f2_poa (k : D → En → Res β) : cps (popAtO 2 d) (s0 :: s1 :: .own ds :: ρ) k = (popAtR ds d).bind fun l => k l.1 (s0 :: s1 :: .own l.2 :: ρ) := pa_at rfl rfl
theorem f2_get (k : Option D → En → Res β) : cps (getDI 2 d) (s0 :: s1 :: .dT kt :: ρ) k = (getTR kt d).bind fun l => k l (s0 :: s1 :: .dT kt :: ρ) := gt_at rfl rfl
theorem f2_gek (k : Option D → En → Res β) : cps (getDI 2 d) (s0 :: s1 :: .dK kk :: ρ) k = (getKR kk d).bind fun l => k l (s0 :: s1 :: .dK kk :: ρ) := gk_at rfl rfl
theorem f2_put (k : Unit → En → Res β) : cps (putDI 2 d e) (s0 :: s1 :: .dT kt :: ρ) k = (putTR kt d e).bind fun l => k () (s0 :: s1 :: .dT l :: ρ) := pt_at rfl rfl
theorem f2_puk (k : Unit → En → Res β) : cps (putDI 2 d e) (s0 :: s1 :: .dK kk :: ρ) k = (putKR kk d e).bind fun l => k () (s0 :: s1 :: .dK l :: ρ) := pk_at rfl rfl
theorem f2_sok (k : List D → En → Res β) : cps (eSortD 2) (s0 :: s1 :: .dK kk :: ρ) k = (sortKR kk).bind fun l => k l (s0 :: s1 :: .dK kk :: ρ) := so_at rfl
theorem f2_sot (k : List D → En → Res β) : cps (eSortT 2) (s0 :: s1 :: .dT kt :: ρ) k = (sortTR kt).bind fun l => k l (s0 :: s1 :: .dT kt :: ρ) := sot_at rfl
theorem f2_lid (k : List D → En → Res β) : cps (eListD 2) (s0 :: s1 :: .dT kt :: ρ) k = (listDT kt).bind fun l => k l (s0 :: s1 :: .dT kt :: ρ) := lid_at rfl
theorem f2_cal (f : List D → List D → Res (D × List D)) (k : D → En → Res β) : cps (callO 2 f es) (s0 :: s1 :: .own ds :: ρ) k = (nxR (f ds es)).bind fun l => k l.1 (s0 :: s1 :: .own l.2 :: ρ) := ca_at rfl rfl
theorem f2_fz (k : Fl → En → Res β) : cps (sPre (2 :: fz) wp g) (s0 :: s1 :: .own ds :: ρ) k = cps (sPre fz wp g) (s0 :: s1 :: .val (.list ds) :: ρ) k := id rfl
theorem f2_wp (k : Fl → En → Res β) : cps (sPre [] (2 :: wp) g) (s0 :: s1 :: s2 :: ρ) k = cps (sPre [] wp g) (s0 :: s1 :: .emp :: ρ) k := id rfl
theorem f3_nmv (k : M D → En → Res β) : cps (eNm 3) (s0 :: s1 :: s2 :: .val d :: ρ) k = k (eAt 3) (s0 :: s1 :: s2 :: .val d :: ρ) := id rfl
theorem f3_nmo (k : M D → En → Res β) : cps (eNm 3) (s0 :: s1 :: s2 :: .own ds :: ρ) k = k (eAt 3) (s0 :: s1 :: s2 :: .own ds :: ρ) := id rfl
theorem f3_atv (k : D → En → Res β) : cps (eAt 3) (s0 :: s1 :: s2 :: .val d :: ρ) k = k d (s0 :: s1 :: s2 :: .val d :: ρ) := id rfl
theorem f3_ato (k : D → En → Res β) : cps (eAt 3) (s0 :: s1 :: s2 :: .own ds :: ρ) k = k (.list ds) (s0 :: s1 :: s2 :: .own ds :: ρ) := id rfl
theorem f3_vrv (k : D → En → Res β) : cps (eVar 3) (s0 :: s1 :: s2 :: .val d :: ρ) k = k d (s0 :: s1 :: s2 :: .val d :: ρ) := id rfl
theorem f3_vro (k : D → En → Res β) : cps (eVar 3) (s0 :: s1 :: s2 :: .own ds :: ρ) k = k (.list ds) (s0 :: s1 :: s2 :: .val (.list ds) :: ρ) := id rfl
theorem f3_iso (k : Unit → En → Res β) : cps (isO 3) (s0 :: s1 :: s2 :: .own ds :: ρ) k = k () (s0 :: s1 :: s2 :: .own ds :: ρ) := id rfl
theorem f3_isT (k : Unit → En → Res β) : cps (isDI 3) (s0 :: s1 :: s2 :: .dT kt :: ρ) k = k () (s0 :: s1 :: s2 :: .dT kt :: ρ) := id rfl
theorem f3_isK (k : Unit → En → Res β) : cps (isDI 3) (s0 :: s1 :: s2 :: .dK kk :: ρ) k = k () (s0 :: s1 :: s2 :: .dK kk :: ρ) := id rfl
theorem f3_stV (k : Unit → En → Res β) : cps (setV 3 d) (s0 :: s1 :: s2 :: s3 :: ρ) k = k () (s0 :: s1 :: s2 :: .val d :: ρ) := st_at (a := .val d) rfl
theorem f3_stO (k : Unit → En → Res β) : cps (setO 3 ds) (s0 :: s1 :: s2 :: s3 :: ρ) k = k () (s0 :: s1 :: s2 :: .own ds :: ρ) := st_at (a := .own ds) rfl
theorem f3_stS (s : Sl) (k : Unit → En → Res β) : cps (setS 3 s) (s0 :: s1 :: s2 :: s3 :: ρ) k = k () (s0 :: s1 :: s2 :: s :: ρ) := st_at (a := s) rfl
theorem f3_app (k : Unit → En → Res β) : cps (appO 3 d) (s0 :: s1 :: s2 :: .own ds :: ρ) k = (appR ds d).bind fun l => k () (s0 :: s1 :: s2 :: .own l :: ρ) := ap_at rfl rfl
theorem f3_ext (k : Unit → En → Res β) : cps (extO 3 d) (s0 :: s1 :: s2 :: .own ds :: ρ) k = (extR ds d).bind fun l => k () (s0 :: s1 :: s2 :: .own l :: ρ) := ex_at rfl rfl
theorem f3_six (k : Unit → En → Res β) : cps (setIxO 3 d e) (s0 :: s1 :: s2 :: .own ds :: ρ) k = (setR ds d e).bind fun l => k () (s0 :: s1 :: s2 :: .own l :: ρ) := sx_at rfl rfl
theorem f3_pop (k : D → En → Res β) : cps (popO 3) (s0 :: s1 :: s2 :: .own ds :: ρ) k = (popR ds).bind fun l => k l.1 (s0 :: s1 :: s2 :: .own l.2 :: ρ) := po_at rfl rfl
theorem f3_poa (k : D → En → Res β) : cps (popAtO 3 d) (s0 :: s1 :: s2 :: .own ds :: ρ) k = (popAtR ds d).bind fun l => k l.1 (s0 :: s1 :: s2 :: .own l.2 :: ρ) := pa_at rfl rfl
theorem f3_get (k : Option D → En → Res β) : cps (getDI 3 d) (s0 :: s1 :: s2 :: .dT kt :: ρ) k = (getTR kt d).bind fun l => k l (s0 :: s1 :: s2 :: .dT kt :: ρ) := gt_at rfl rfl
theorem f3_gek (k : Option D → En → Res β) : cps (getDI 3 d) (s0 :: s1 :: s2 :: .dK kk :: ρ) k = (getKR kk d).bind fun l => k l (s0 :: s1 :: s2 :: .dK kk :: ρ) := gk_at rfl rfl
theorem f3_put (k : Unit → En → Res β) : cps (putDI 3 d e) (s0 :: s1 :: s2 :: .dT kt :: ρ) k = (putTR kt d e).bind fun l => k () (s0 :: s1 :: s2 :: .dT l :: ρ) := pt_at rfl rfl
theorem f3_puk (k : Unit → En → Res β) : cps (putDI 3 d e) (s0 :: s1 :: s2 :: .dK kk :: ρ) k = (putKR kk d e).bind fun l => k () (s0 :: s1 :: s2 :: .dK l :: ρ) := pk_at rfl rfl
theorem f3_sok (k : List D → En → Res β) : cps (eSortD 3) (s0 :: s1 :: s2 :: .dK kk :: ρ) k = (sortKR kk).bind fun l => k l (s0 :: s1 :: s2 :: .dK kk :: ρ) := so_at rfl
theorem f3_sot (k : List D → En → Res β) : cps (eSortT 3) (s0 :: s1 :: s2 :: .dT kt :: ρ) k = (sortTR kt).bind fun l => k l (s0 :: s1 :: s2 :: .dT kt :: ρ) := sot_at rfl
theorem f3_lid (k : List D → En → Res β) : cps (eListD 3) (s0 :: s1 :: s2 :: .dT kt :: ρ) k = (listDT kt).bind fun l => k l (s0 :: s1 :: s2 :: .dT kt :: ρ) := lid_at rfl
theorem f3_cal (f : List D → List D → Res (D × List D)) (k : D → En → Res β) : cps (callO 3 f es) (s0 :: s1 :: s2 :: .own ds :: ρ) k = (nxR (f ds es)).bind fun l => k l.1 (s0 :: s1 :: s2 :: .own l.2 :: ρ) := ca_at rfl rfl
theorem f3_fz (k : Fl → En → Res β) : cps (sPre (3 :: fz) wp g) (s0 :: s1 :: s2 :: .own ds :: ρ) k = cps (sPre fz wp g) (s0 :: s1 :: s2 :: .val (.list ds) :: ρ) k := id rfl
theorem f3_wp (k : Fl → En → Res β) : cps (sPre [] (3 :: wp) g) (s0 :: s1 :: s2 :: s3 :: ρ) k = cps (sPre [] wp g) (s0 :: s1 :: s2 :: .emp :: ρ) k := id rfl
theorem f4_nmv (k : M D → En → Res β) : cps (eNm 4) (s0 :: s1 :: s2 :: s3 :: .val d :: ρ) k = k (eAt 4) (s0 :: s1 :: s2 :: s3 :: .val d :: ρ) := id rfl
theorem f4_nmo (k : M D → En → Res β) : cps (eNm 4) (s0 :: s1 :: s2 :: s3 :: .own ds :: ρ) k = k (eAt 4) (s0 :: s1 :: s2 :: s3 :: .own ds :: ρ) := id rfl
theorem f4_atv (k : D → En → Res β) : cps (eAt 4) (s0 :: s1 :: s2 :: s3 :: .val d :: ρ) k = k d (s0 :: s1 :: s2 :: s3 :: .val d :: ρ) := id rfl
theorem f4_ato (k : D → En → Res β) : cps (eAt 4) (s0 :: s1 :: s2 :: s3 :: .own ds :: ρ) k = k (.list ds) (s0 :: s1 :: s2 :: s3 :: .own ds :: ρ) := id rfl
theorem f4_vrv (k : D → En → Res β) : cps (eVar 4) (s0 :: s1 :: s2 :: s3 :: .val d :: ρ) k = k d (s0 :: s1 :: s2 :: s3 :: .val d :: ρ) := id rfl
theorem f4_vro (k : D → En → Res β) : cps (eVar 4) (s0 :: s1 :: s2 :: s3 :: .own ds :: ρ) k = k (.list ds) (s0 :: s1 :: s2 :: s3 :: .val (.list ds) :: ρ) := id rfl
theorem f4_iso (k : Unit → En → Res β) : cps (isO 4) (s0 :: s1 :: s2 :: s3 :: .own ds :: ρ) k = k () (s0 :: s1 :: s2 :: s3 :: .own ds :: ρ) := id rfl
theorem f4_isT (k : Unit → En → Res β) : cps (isDI 4) (s0 :: s1 :: s2 :: s3 :: .dT kt :: ρ) k = k () (s0 :: s1 :: s2 :: s3 :: .dT kt :: ρ) := id rfl
theorem f4_isK (k : Unit → En → Res β) : cps (isDI 4) (s0 :: s1 :: s2 :: s3 :: .dK kk :: ρ) k = k () (s0 :: s1 :: s2 :: s3 :: .dK kk :: ρ) := id rfl
theorem f4_stV (k : Unit → En → Res β) : cps (setV 4 d) (s0 :: s1 :: s2 :: s3 :: s4 :: ρ) k = k () (s0 :: s1 :: s2 :: s3 :: .val d :: ρ) := st_at (a := .val d) rfl
theorem f4_stO (k : Unit → En → Res β) : cps (setO 4 ds) (s0 :: s1 :: s2 :: s3 :: s4 :: ρ) k = k () (s0 :: s1 :: s2 :: s3 :: .own ds :: ρ) := st_at (a := .own ds) rfl
theorem f4_stS (s : Sl) (k : Unit → En → Res β) : cps (setS 4 s) (s0 :: s1 :: s2 :: s3 :: s4 :: ρ) k = k () (s0 :: s1 :: s2 :: s3 :: s :: ρ) := st_at (a := s) rfl
theorem f4_app (k : Unit → En → Res β) : cps (appO 4 d) (s0 :: s1 :: s2 :: s3 :: .own ds :: ρ) k = (appR ds d).bind fun l => k () (s0 :: s1 :: s2 :: s3 :: .own l :: ρ) := ap_at rfl rfl
theorem f4_ext (k : Unit → En → Res β) : cps (extO 4 d) (s0 :: s1 :: s2 :: s3 :: .own ds :: ρ) k = (extR ds d).bind fun l => k () (s0 :: s1 :: s2 :: s3 :: .own l :: ρ) := ex_at rfl rfl
theorem f4_six (k : Unit → En → Res β) : cps (setIxO 4 d e) (s0 :: s1 :: s2 :: s3 :: .own ds :: ρ) k = (setR ds d e).bind fun l => k () (s0 :: s1 :: s2 :: s3 :: .own l :: ρ) := sx_at rfl rfl
theorem f4_pop (k : D → En → Res β) : cps (popO 4) (s0 :: s1 :: s2 :: s3 :: .own ds :: ρ) k = (popR ds).bind fun l => k l.1 (s0 :: s1 :: s2 :: s3 :: .own l.2 :: ρ) := po_at rfl rfl
theorem f4_poa (k : D → En → Res β) : cps (popAtO 4 d) (s0 :: s1 :: s2 :: s3 :: .own ds :: ρ) k = (popAtR ds d).bind fun l => k l.1 (s0 :: s1 :: s2 :: s3 :: .own l.2 :: ρ) := pa_at rfl rfl
theorem f4_get (k : Option D → En → Res β) : cps (getDI 4 d) (s0 :: s1 :: s2 :: s3 :: .dT kt :: ρ) k = (getTR kt d).bind fun l => k l (s0 :: s1 :: s2 :: s3 :: .dT kt :: ρ) := gt_at rfl rfl
theorem f4_gek (k : Option D → En → Res β) : cps (getDI 4 d) (s0 :: s1 :: s2 :: s3 :: .dK kk :: ρ) k = (getKR kk d).bind fun l => k l (s0 :: s1 :: s2 :: s3 :: .dK kk :: ρ) := gk_at rfl rfl
theorem f4_put (k : Unit → En → Res β) : cps (putDI 4 d e) (s0 :: s1 :: s2 :: s3 :: .dT kt :: ρ) k = (putTR kt d e).bind fun l => k () (s0 :: s1 :: s2 :: s3 :: .dT l :: ρ) := pt_at rfl rfl
theorem f4_puk (k : Unit → En → Res β) : cps (putDI 4 d e) (s0 :: s1 :: s2 :: s3 :: .dK kk :: ρ) k = (putKR kk d e).bind fun l => k () (s0 :: s1 :: s2 :: s3 :: .dK l :: ρ) := pk_at rfl rfl
theorem f4_sok (k : List D → En → Res β) : cps (eSortD 4) (s0 :: s1 :: s2 :: s3 :: .dK kk :: ρ) k = (sortKR kk).bind fun l => k l (s0 :: s1 :: s2 :: s3 :: .dK kk :: ρ) := so_at rfl
theorem f4_sot (k : List D → En → Res β) : cps (eSortT 4) (s0 :: s1 :: s2 :: s3 :: .dT kt :: ρ) k = (sortTR kt).bind fun l => k l (s0 :: s1 :: s2 :: s3 :: .dT kt :: ρ) := sot_at rfl
theorem f4_lid (k : List D → En → Res β) : cps (eListD 4) (s0 :: s1 :: s2 :: s3 :: .dT kt :: ρ) k = (listDT kt).bind fun l => k l (s0 :: s1 :: s2 :: s3 :: .dT kt :: ρ) := lid_at rfl
theorem f4_cal (f : List D → List D → Res (D × List D)) (k : D → En → Res β) : cps (callO 4 f es) (s0 :: s1 :: s2 :: s3 :: .own ds :: ρ) k = (nxR (f ds es)).bind fun l => k l.1 (s0 :: s1 :: s2 :: s3 :: .own l.2 :: ρ) := ca_at rfl rfl
theorem f4_fz (k : Fl → En → Res β) : cps (sPre (4 :: fz) wp g) (s0 :: s1 :: s2 :: s3 :: .own ds :: ρ) k = cps (sPre fz wp g) (s0 :: s1 :: s2 :: s3 :: .val (.list ds) :: ρ) k := id rfl
theorem f4_wp (k : Fl → En → Res β) : cps (sPre [] (4 :: wp) g) (s0 :: s1 :: s2 :: s3 :: s4 :: ρ) k = cps (sPre [] wp g) (s0 :: s1 :: s2 :: s3 :: .emp :: ρ) k := id rfl
theorem f5_nmv (k : M D → En → Res β) : cps (eNm 5) (s0 :: s1 :: s2 :: s3 :: s4 :: .val d :: ρ) k = k (eAt 5) (s0 :: s1 :: s2 :: s3 :: s4 :: .val d :: ρ) := id rfl
theorem f5_nmo (k : M D → En → Res β) : cps (eNm 5) (s0 :: s1 :: s2 :: s3 :: s4 :: .own ds :: ρ) k = k (eAt 5) (s0 :: s1 :: s2 :: s3 :: s4 :: .own ds :: ρ) := id rfl
theorem f5_atv (k : D → En → Res β) : cps (eAt 5) (s0 :: s1 :: s2 :: s3 :: s4 :: .val d :: ρ) k = k d (s0 :: s1 :: s2 :: s3 :: s4 :: .val d :: ρ) := id rfl
theorem f5_ato (k : D → En → Res β) : cps (eAt 5) (s0 :: s1 :: s2 :: s3 :: s4 :: .own ds :: ρ) k = k (.list ds) (s0 :: s1 :: s2 :: s3 :: s4 :: .own ds :: ρ) := id rfl
theorem f5_vrv (k : D → En → Res β) : cps (eVar 5) (s0 :: s1 :: s2 :: s3 :: s4 :: .val d :: ρ) k = k d (s0 :: s1 :: s2 :: s3 :: s4 :: .val d :: ρ) := id rfl
theorem f5_vro (k : D → En → Res β) : cps (eVar 5) (s0 :: s1 :: s2 :: s3 :: s4 :: .own ds :: ρ) k = k (.list ds) (s0 :: s1 :: s2 :: s3 :: s4 :: .val (.list ds) :: ρ) := id rfl
theorem f5_iso (k : Unit → En → Res β) : cps (isO 5) (s0 :: s1 :: s2 :: s3 :: s4 :: .own ds :: ρ) k = k () (s0 :: s1 :: s2 :: s3 :: s4 :: .own ds :: ρ) := id rfl
theorem f5_isT (k : Unit → En → Res β) : cps (isDI 5) (s0 :: s1 :: s2 :: s3 :: s4 :: .dT kt :: ρ) k = k () (s0 :: s1 :: s2 :: s3 :: s4 :: .dT kt :: ρ) := id rfl
theorem f5_isK (k : Unit → En → Res β) : cps (isDI 5) (s0 :: s1 :: s2 :: s3 :: s4 :: .dK kk :: ρ) k = k () (s0 :: s1 :: s2 :: s3 :: s4 :: .dK kk :: ρ) := id rfl
theorem f5_stV (k : Unit → En → Res β) : cps (setV 5 d) (s0 :: s1 :: s2 :: s3 :: s4 :: s5 :: ρ) k = k () (s0 :: s1 :: s2 :: s3 :: s4 :: .val d :: ρ) := st_at (a := .val d) rfl
theorem f5_stO (k : Unit → En → Res β) : cps (setO 5 ds) (s0 :: s1 :: s2 :: s3 :: s4 :: s5 :: ρ) k = k () (s0 :: s1 :: s2 :: s3 :: s4 :: .own ds :: ρ) := st_at (a := .own ds) rfl
theorem f5_stS (s : Sl) (k : Unit → En → Res β) : cps (setS 5 s) (s0 :: s1 :: s2 :: s3 :: s4 :: s5 :: ρ) k = k () (s0 :: s1 :: s2 :: s3 :: s4 :: s :: ρ) := st_at (a := s) rfl
theorem f5_app (k : Unit → En → Res β) : cps (appO 5 d) (s0 :: s1 :: s2 :: s3 :: s4 :: .own ds :: ρ) k = (appR ds d).bind fun l => k () (s0 :: s1 :: s2 :: s3 :: s4 :: .own l :: ρ) := ap_at rfl rfl
theorem f5_ext (k : Unit → En → Res β) : cps (extO 5 d) (s0 :: s1 :: s2 :: s3 :: s4 :: .own ds :: ρ) k = (extR ds d).bind fun l => k () (s0 :: s1 :: s2 :: s3 :: s4 :: .own l :: ρ) := ex_at rfl rfl
theorem f5_six (k : Unit → En → Res β) : cps (setIxO 5 d e) (s0 :: s1 :: s2 :: s3 :: s4 :: .own ds :: ρ) k = (setR ds d e).bind fun l => k () (s0 :: s1 :: s2 :: s3 :: s4 :: .own l :: ρ) := sx_at rfl rfl
theorem f5_pop (k : D → En → Res β) : cps (popO 5) (s0 :: s1 :: s2 :: s3 :: s4 :: .own ds :: ρ) k = (popR ds).bind fun l => k l.1 (s0 :: s1 :: s2 :: s3 :: s4 :: .own l.2 :: ρ) := po_at rfl rfl
theorem f5_poa (k : D → En → Res β) : cps (popAtO 5 d) (s0 :: s1 :: s2 :: s3 :: s4 :: .own ds :: ρ) k = (popAtR ds d).bind fun l => k l.1 (s0 :: s1 :: s2 :: s3 :: s4 :: .own l.2 :: ρ) := pa_at rfl rfl
theorem f5_get (k : Option D → En → Res β) : cps (getDI 5 d) (s0 :: s1 :: s2 :: s3 :: s4 :: .dT kt :: ρ) k = (getTR kt d).bind fun l => k l (s0 :: s1 :: s2 :: s3 :: s4 :: .dT kt :: ρ) := gt_at rfl rfl
theorem f5_gek (k : Option D → En → Res β) : cps (getDI 5 d) (s0 :: s1 :: s2 :: s3 :: s4 :: .dK kk :: ρ) k = (getKR kk d).bind fun l => k l (s0 :: s1 :: s2 :: s3 :: s4 :: .dK kk :: ρ) := gk_at rfl rfl
theorem f5_put (k : Unit → En → Res β) : cps (putDI 5 d e) (s0 :: s1 :: s2 :: s3 :: s4 :: .dT kt :: ρ) k = (putTR kt d e).bind fun l => k () (s0 :: s1 :: s2 :: s3 :: s4 :: .dT l :: ρ) := pt_at rfl rfl
theorem f5_puk (k : Unit → En → Res β) : cps (putDI 5 d e) (s0 :: s1 :: s2 :: s3 :: s4 :: .dK kk :: ρ) k = (putKR kk d e).bind fun l => k () (s0 :: s1 :: s2 :: s3 :: s4 :: .dK l :: ρ) := pk_at rfl rfl
theorem f5_sok (k : List D → En → Res β) : cps (eSortD 5) (s0 :: s1 :: s2 :: s3 :: s4 :: .dK kk :: ρ) k = (sortKR kk).bind fun l => k l (s0 :: s1 :: s2 :: s3 :: s4 :: .dK kk :: ρ) := so_at rfl
theorem f5_sot (k : List D → En → Res β) : cps (eSortT 5) (s0 :: s1 :: s2 :: s3 :: s4 :: .dT kt :: ρ) k = (sortTR kt).bind fun l => k l (s0 :: s1 :: s2 :: s3 :: s4 :: .dT kt :: ρ) := sot_at rfl
theorem f5_lid (k : List D → En → Res β) : cps (eListD 5) (s0 :: s1 :: s2 :: s3 :: s4 :: .dT kt :: ρ) k = (listDT kt).bind fun l => k l (s0 :: s1 :: s2 :: s3 :: s4 :: .dT kt :: ρ) := lid_at rfl
theorem f5_cal (f : List D → List D → Res (D × List D)) (k : D → En → Res β) : cps (callO 5 f es) (s0 :: s1 :: s2 :: s3 :: s4 :: .own ds :: ρ) k = (nxR (f ds es)).bind fun l => k l.1 (s0 :: s1 :: s2 :: s3 :: s4 :: .own l.2 :: ρ) := ca_at rfl rfl
theorem f5_fz (k : Fl → En → Res β) : cps (sPre (5 :: fz) wp g) (s0 :: s1 :: s2 :: s3 :: s4 :: .own ds :: ρ) k = cps (sPre fz wp g) (s0 :: s1 :: s2 :: s3 :: s4 :: .val (.list ds) :: ρ) k := id rfl
theorem f5_wp (k : Fl → En → Res β) : cps (sPre [] (5 :: wp) g) (s0 :: s1 :: s2 :: s3 :: s4 :: s5 :: ρ) k = cps (sPre [] wp g) (s0 :: s1 :: s2 :: s3 :: s4 :: .emp :: ρ) k := id rfl
theorem f6_nmv (k : M D → En → Res β) : cps (eNm 6) (s0 :: s1 :: s2 :: s3 :: s4 :: s5 :: .val d :: ρ) k = k (eAt 6) (s0 :: s1 :: s2 :: s3 :: s4 :: s5 :: .val d :: ρ) := id rfl
theorem f6_nmo (k : M D → En → Res β) : cps (eNm 6) (s0 :: s1 :: s2 :: s3 :: s4 :: s5 :: .own ds :: ρ) k = k (eAt 6) (s0 :: s1 :: s2 :: s3 :: s4 :: s5 :: .own ds :: ρ) := id rfl
theorem f6_atv (k : D → En → Res β) : cps (eAt 6) (s0 :: s1 :: s2 :: s3 :: s4 :: s5 :: .val d :: ρ) k = k d (s0 :: s1 :: s2 :: s3 :: s4 :: s5 :: .val d :: ρ) := id rfl
theorem f6_ato (k : D → En → Res β) : cps (eAt 6) (s0 :: s1 :: s2 :: s3 :: s4 :: s5 :: .own ds :: ρ) k = k (.list ds) (s0 :: s1 :: s2 :: s3 :: s4 :: s5 :: .own ds :: ρ) := id rfl
theorem f6_vrv (k : D → En → Res β) : cps (eVar 6) (s0 :: s1 :: s2 :: s3 :: s4 :: s5 :: .val d :: ρ) k = k d (s0 :: s1 :: s2 :: s3 :: s4 :: s5 :: .val d :: ρ) := id rfl
theorem f6_vro (k : D → En → Res β) : cps (eVar 6) (s0 :: s1 :: s2 :: s3 :: s4 :: s5 :: .own ds :: ρ) k = k (.list ds) (s0 :: s1 :: s2 :: s3 :: s4 :: s5 :: .val (.list ds) :: ρ) := id rfl
theorem f6_iso (k : Unit → En → Res β) : cps (isO 6) (s0 :: s1 :: s2 :: s3 :: s4 :: s5 :: .own ds :: ρ) k = k () (s0 :: s1 :: s2 :: s3 :: s4 :: s5 :: .own ds :: ρ) := id rfl
theorem f6_isT (k : Unit → En → Res β) : cps (isDI 6) (s0 :: s1 :: s2 :: s3 :: s4 :: s5 :: .dT kt :: ρ) k = k () (s0 :: s1 :: s2 :: s3 :: s4 :: s5 :: .dT kt :: ρ) := id rfl
theorem f6_isK (k : Unit → En → Res β) : cps (isDI 6) (s0 :: s1 :: s2 :: s3 :: s4 :: s5 :: .dK kk :: ρ) k = k () (s0 :: s1 :: s2 :: s3 :: s4 :: s5 :: .dK kk :: ρ) := id rfl
theorem f6_stV (k : Unit → En → Res β) : cps (setV 6 d) (s0 :: s1 :: s2 :: s3 :: s4 :: s5 :: s6 :: ρ) k = k () (s0 :: s1 :: s2 :: s3 :: s4 :: s5 :: .val d :: ρ) := st_at (a := .val d) rfl
theorem f6_stO (k : Unit → En → Res β) : cps (setO 6 ds) (s0 :: s1 :: s2 :: s3 :: s4 :: s5 :: s6 :: ρ) k = k () (s0 :: s1 :: s2 :: s3 :: s4 :: s5 :: .own ds :: ρ) := st_at (a := .own ds) rfl
theorem f6_stS (s : Sl) (k : Unit → En → Res β) : cps (setS 6 s) (s0 :: s1 :: s2 :: s3 :: s4 :: s5 :: s6 :: ρ) k = k () (s0 :: s1 :: s2 :: s3 :: s4 :: s5 :: s :: ρ) := st_at (a := s) rfl
theorem f6_app (k : Unit → En → Res β) : cps (appO 6 d) (s0 :: s1 :: s2 :: s3 :: s4 :: s5 :: .own ds :: ρ) k = (appR ds d).bind fun l => k () (s0 :: s1 :: s2 :: s3 :: s4 :: s5 :: .own l :: ρ) := ap_at rfl rfl
theorem f6_ext (k : Unit → En → Res β) : cps (extO 6 d) (s0 :: s1 :: s2 :: s3 :: s4 :: s5 :: .own ds :: ρ) k = (extR ds d).bind fun l => k () (s0 :: s1 :: s2 :: s3 :: s4 :: s5 :: .own l :: ρ) := ex_at rfl rfl
theorem f6_six (k : Unit → En → Res β) : cps (setIxO 6 d e) (s0 :: s1 :: s2 :: s3 :: s4 :: s5 :: .own ds :: ρ) k = (setR ds d e).bind fun l => k () (s0 :: s1 :: s2 :: s3 :: s4 :: s5 :: .own l :: ρ) := sx_at rfl rfl
theorem f6_pop (k : D → En → Res β) : cps (popO 6) (s0 :: s1 :: s2 :: s3 :: s4 :: s5 :: .own ds :: ρ) k = (popR ds).bind fun l => k l.1 (s0 :: s1 :: s2 :: s3 :: s4 :: s5 :: .own l.2 :: ρ) := po_at rfl rfl
theorem f6_poa (k : D → En → Res β) : cps (popAtO 6 d) (s0 :: s1 :: s2 :: s3 :: s4 :: s5 :: .own ds :: ρ) k = (popAtR ds d).bind fun l => k l.1 (s0 :: s1 :: s2 :: s3 :: s4 :: s5 :: .own l.2 :: ρ) := pa_at rfl rfl
theorem f6_get (k : Option D → En → Res β) : cps (getDI 6 d) (s0 :: s1 :: s2 :: s3 :: s4 :: s5 :: .dT kt :: ρ) k = (getTR kt d).bind fun l => k l (s0 :: s1 :: s2 :: s3 :: s4 :: s5 :: .dT kt :: ρ) := gt_at rfl rfl
theorem f6_gek (k : Option D → En → Res β) : cps (getDI 6 d) (s0 :: s1 :: s2 :: s3 :: s4 :: s5 :: .dK kk :: ρ) k = (getKR kk d).bind fun l => k l (s0 :: s1 :: s2 :: s3 :: s4 :: s5 :: .dK kk :: ρ) := gk_at rfl rfl
theorem f6_put (k : Unit → En → Res β) : cps (putDI 6 d e) (s0 :: s1 :: s2 :: s3 :: s4 :: s5 :: .dT kt :: ρ) k = (putTR kt d e).bind fun l => k () (s0 :: s1 :: s2 :: s3 :: s4 :: s5 :: .dT l :: ρ) := pt_at rfl rfl
theorem f6_puk (k : Unit → En → Res β) : cps (putDI 6 d e) (s0 :: s1 :: s2 :: s3 :: s4 :: s5 :: .dK kk :: ρ) k = (putKR kk d e).bind fun l => k () (s0 :: s1 :: s2 :: s3 :: s4 :: s5 :: .dK l :: ρ) := pk_at rfl rfl
theorem f6_sok (k : List D → En → Res β) : cps (eSortD 6) (s0 :: s1 :: s2 :: s3 :: s4 :: s5 :: .dK kk :: ρ) k = (sortKR kk).bind fun l => k l (s0 :: s1 :: s2 :: s3 :: s4 :: s5 :: .dK kk :: ρ) := so_at rfl
theorem f6_sot (k : List D → En → Res β) : cps (eSortT 6) (s0 :: s1 :: s2 :: s3 :: s4 :: s5 :: .dT kt :: ρ) k = (sortTR kt).bind fun l => k l (s0 :: s1 :: s2 :: s3 :: s4 :: s5 :: .dT kt :: ρ) := sot_at rfl
theorem f6_lid (k : List D → En → Res β) : cps (eListD 6) (s0 :: s1 :: s2 :: s3 :: s4 :: s5 :: .dT kt :: ρ) k = (listDT kt).bind fun l => k l (s0 :: s1 :: s2 :: s3 :: s4 :: s5 :: .dT kt :: ρ) := lid_at rfl
theorem f6_cal (f : List D → List D → Res (D × List D)) (k : D → En → Res β) : cps (callO 6 f es) (s0 :: s1 :: s2 :: s3 :: s4 :: s5 :: .own ds :: ρ) k = (nxR (f ds es)).bind fun l => k l.1 (s0 :: s1 :: s2 :: s3 :: s4 :: s5 :: .own l.2 :: ρ) := ca_at rfl rfl
theorem f6_fz (k : Fl → En → Res β) : cps (sPre (6 :: fz) wp g) (s0 :: s1 :: s2 :: s3 :: s4 :: s5 :: .own ds :: ρ) k = cps (sPre fz wp g) (s0 :: s1 :: s2 :: s3 :: s4 :: s5 :: .val (.list ds) :: ρ) k := id rfl
theorem f6_wp (k : Fl → En → Res β) : cps (sPre [] (6 :: wp) g) (s0 :: s1 :: s2 :: s3 :: s4 :: s5 :: s6 :: ρ) k = cps (sPre [] wp g) (s0 :: s1 :: s2 :: s3 :: s4 :: s5 :: .emp :: ρ) k := id rfl
theorem f7_nmv (k : M D → En → Res β) : cps (eNm 7) (s0 :: s1 :: s2 :: s3 :: s4 :: s5 :: s6 :: .val d :: ρ) k = k (eAt 7) (s0 :: s1 :: s2 :: s3 :: s4 :: s5 :: s6 :: .val d :: ρ) := id rfl
theorem f7_nmo (k : M D → En → Res β) : cps (eNm 7) (s0 :: s1 :: s2 :: s3 :: s4 :: s5 :: s6 :: .own ds :: ρ) k = k (eAt 7) (s0 :: s1 :: s2 :: s3 :: s4 :: s5 :: s6 :: .own ds :: ρ) := id rfl
theorem f7_atv (k : D → En → Res β) : cps (eAt 7) (s0 :: s1 :: s2 :: s3 :: s4 :: s5 :: s6 :: .val d :: ρ) k = k d (s0 :: s1 :: s2 :: s3 :: s4 :: s5 :: s6 :: .val d :: ρ) := id rfl
theorem f7_ato (k : D → En → Res β) : cps (eAt 7) (s0 :: s1 :: s2 :: s3 :: s4 :: s5 :: s6 :: .own ds :: ρ) k = k (.list ds) (s0 :: s1 :: s2 :: s3 :: s4 :: s5 :: s6 :: .own ds :: ρ) := id rfl
theorem f7_vrv (k : D → En → Res β) : cps (eVar 7) (s0 :: s1 :: s2 :: s3 :: s4 :: s5 :: s6 :: .val d :: ρ) k = k d (s0 :: s1 :: s2 :: s3 :: s4 :: s5 :: s6 :: .val d :: ρ) := id rfl
theorem f7_vro (k : D → En → Res β) : cps (eVar 7) (s0 :: s1 :: s2 :: s3 :: s4 :: s5 :: s6 :: .own ds :: ρ) k = k (.list ds) (s0 :: s1 :: s2 :: s3 :: s4 :: s5 :: s6 :: .val (.list ds) :: ρ) := id rfl
theorem f7_iso (k : Unit → En → Res β) : cps (isO 7) (s0 :: s1 :: s2 :: s3 :: s4 :: s5 :: s6 :: .own ds :: ρ) k = k () (s0 :: s1 :: s2 :: s3 :: s4 :: s5 :: s6 :: .own ds :: ρ) := id rfl
theorem f7_isT (k : Unit → En → Res β) : cps (isDI 7) (s0 :: s1 :: s2 :: s3 :: s4 :: s5 :: s6 :: .dT kt :: ρ) k = k () (s0 :: s1 :: s2 :: s3 :: s4 :: s5 :: s6 :: .dT kt :: ρ) := id rfl
theorem f7_isK (k : Unit → En → Res β) : cps (isDI 7) (s0 :: s1 :: s2 :: s3 :: s4 :: s5 :: s6 :: .dK kk :: ρ) k = k () (s0 :: s1 :: s2 :: s3 :: s4 :: s5 :: s6 :: .dK kk :: ρ) := id rfl
theorem f7_stV (k : Unit → En → Res β) : cps (setV 7 d) (s0 :: s1 :: s2 :: s3 :: s4 :: s5 :: s6 :: s7 :: ρ) k = k () (s0 :: s1 :: s2 :: s3 :: s4 :: s5 :: s6 :: .val d :: ρ) := st_at (a := .val d) rfl
theorem f7_stO (k : Unit → En → Res β) : cps (setO 7 ds) (s0 :: s1 :: s2 :: s3 :: s4 :: s5 :: s6 :: s7 :: ρ) k = k () (s0 :: s1 :: s2 :: s3 :: s4 :: s5 :: s6 :: .own ds :: ρ) := st_at (a := .own ds) rfl
theorem f7_stS (s : Sl) (k : Unit → En → Res β) : cps (setS 7 s) (s0 :: s1 :: s2 :: s3 :: s4 :: s5 :: s6 :: s7 :: ρ) k = k () (s0 :: s1 :: s2 :: s3 :: s4 :: s5 :: s6 :: s :: ρ) := st_at (a := s) rfl
theorem f7_app (k : Unit → En → Res β) : cps (appO 7 d) (s0 :: s1 :: s2 :: s3 :: s4 :: s5 :: s6 :: .own ds :: ρ) k = (appR ds d).bind fun l => k () (s0 :: s1 :: s2 :: s3 :: s4 :: s5 :: s6 :: .own l :: ρ) := ap_at rfl rfl
theorem f7_ext (k : Unit → En → Res β) : cps (extO 7 d) (s0 :: s1 :: s2 :: s3 :: s4 :: s5 :: s6 :: .own ds :: ρ) k = (extR ds d).bind fun l => k () (s0 :: s1 :: s2 :: s3 :: s4 :: s5 :: s6 :: .own l :: ρ) := ex_at rfl rfl
theorem f7_six (k : Unit → En → Res β) : cps (setIxO 7 d e) (s0 :: s1 :: s2 :: s3 :: s4 :: s5 :: s6 :: .own ds :: ρ) k = (setR ds d e).bind fun l => k () (s0 :: s1 :: s2 :: s3 :: s4 :: s5 :: s6 :: .own l :: ρ) := sx_at rfl rfl
theorem f7_pop (k : D → En → Res β) : cps (popO 7) (s0 :: s1 :: s2 :: s3 :: s4 :: s5 :: s6 :: .own ds :: ρ) k = (popR ds).bind fun l => k l.1 (s0 :: s1 :: s2 :: s3 :: s4 :: s5 :: s6 :: .own l.2 :: ρ) := po_at rfl rfl
theorem f7_poa (k : D → En → Res β) : cps (popAtO 7 d) (s0 :: s1 :: s2 :: s3 :: s4 :: s5 :: s6 :: .own ds :: ρ) k = (popAtR ds d).bind fun l => k l.1 (s0 :: s1 :: s2 :: s3 :: s4 :: s5 :: s6 :: .own l.2 :: ρ) := pa_at rfl rfl
theorem f7_get (k : Option D → En → Res β) : cps (getDI 7 d) (s0 :: s1 :: s2 :: s3 :: s4 :: s5 :: s6 :: .dT kt :: ρ) k = (getTR kt d).bind fun l => k l (s0 :: s1 :: s2 :: s3 :: s4 :: s5 :: s6 :: .dT kt :: ρ) := gt_at rfl rfl
theorem f7_gek (k : Option D → En → Res β) : cps (getDI 7 d) (s0 :: s1 :: s2 :: s3 :: s4 :: s5 :: s6 :: .dK kk :: ρ) k = (getKR kk d).bind fun l => k l (s0 :: s1 :: s2 :: s3 :: s4 :: s5 :: s6 :: .dK kk :: ρ) := gk_at rfl rfl
theorem f7_put (k : Unit → En → Res β) : cps (putDI 7 d e) (s0 :: s1 :: s2 :: s3 :: s4 :: s5 :: s6 :: .dT kt :: ρ) k = (putTR kt d e).bind fun l => k () (s0 :: s1 :: s2 :: s3 :: s4 :: s5 :: s6 :: .dT l :: ρ) := pt_at rfl rfl
theorem f7_puk (k : Unit → En → Res β) : cps (putDI 7 d e) (s0 :: s1 :: s2 :: s3 :: s4 :: s5 :: s6 :: .dK kk :: ρ) k = (putKR kk d e).bind fun l => k () (s0 :: s1 :: s2 :: s3 :: s4 :: s5 :: s6 :: .dK l :: ρ) := pk_at rfl rfl
theorem f7_sok (k : List D → En → Res β) : cps (eSortD 7) (s0 :: s1 :: s2 :: s3 :: s4 :: s5 :: s6 :: .dK kk :: ρ) k = (sortKR kk).bind fun l => k l (s0 :: s1 :: s2 :: s3 :: s4 :: s5 :: s6 :: .dK kk :: ρ) := so_at rfl
theorem f7_sot (k : List D → En → Res β) : cps (eSortT 7) (s0 :: s1 :: s2 :: s3 :: s4 :: s5 :: s6 :: .dT kt :: ρ) k = (sortTR kt).bind fun l => k l (s0 :: s1 :: s2 :: s3 :: s4 :: s5 :: s6 :: .dT kt :: ρ) := sot_at rfl
theorem f7_lid (k : List D → En → Res β) : cps (eListD 7) (s0 :: s1 :: s2 :: s3 :: s4 :: s5 :: s6 :: .dT kt :: ρ) k = (listDT kt).bind fun l => k l (s0 :: s1 :: s2 :: s3 :: s4 :: s5 :: s6 :: .dT kt :: ρ) := lid_at rfl
theorem f7_cal (f : List D → List D → Res (D × List D)) (k : D → En → Res β) : cps (callO 7 f es) (s0 :: s1 :: s2 :: s3 :: s4 :: s5 :: s6 :: .own ds :: ρ) k = (nxR (f ds es)).bind fun l => k l.1 (s0 :: s1 :: s2 :: s3 :: s4 :: s5 :: s6 :: .own l.2 :: ρ) := ca_at rfl rfl
theorem f7_fz (k : Fl → En → Res β) : cps (sPre (7 :: fz) wp g) (s0 :: s1 :: s2 :: s3 :: s4 :: s5 :: s6 :: .own ds :: ρ) k = cps (sPre fz wp g) (s0 :: s1 :: s2 :: s3 :: s4 :: s5 :: s6 :: .val (.list ds) :: ρ) k := id rfl
theorem f7_wp (k : Fl → En → Res β) : cps (sPre [] (7 :: wp) g) (s0 :: s1 :: s2 :: s3 :: s4 :: s5 :: s6 :: s7 :: ρ) k = cps (sPre [] wp g) (s0 :: s1 :: s2 :: s3 :: s4 :: s5 :: s6 :: .emp :: ρ) k := id rfl
theorem f8_nmv (k : M D → En → Res β) : cps (eNm 8) (s0 :: s1 :: s2 :: s3 :: s4 :: s5 :: s6 :: s7 :: .val d :: ρ) k = k (eAt 8) (s0 :: s1 :: s2 :: s3 :: s4 :: s5 :: s6 :: s7 :: .val d :: ρ) := id rfl
theorem f8_nmo (k : M D → En → Res β) : cps (eNm 8) (s0 :: s1 :: s2 :: s3 :: s4 :: s5 :: s6 :: s7 :: .own ds :: ρ) k = k (eAt 8) (s0 :: s1 :: s2 :: s3 :: s4 :: s5 :: s6 :: s7 :: .own ds :: ρ) := id rfl
theorem f8_atv (k : D → En → Res β) : cps (eAt 8) (s0 :: s1 :: s2 :: s3 :: s4 :: s5 :: s6 :: s7 :: .val d :: ρ) k = k d (s0 :: s1 :: s2 :: s3 :: s4 :: s5 :: s6 :: s7 :: .val d :: ρ) := id rfl
theorem f8_ato (k : D → En → Res β) : cps (eAt 8) (s0 :: s1 :: s2 :: s3 :: s4 :: s5 :: s6 :: s7 :: .own ds :: ρ) k = k (.list ds) (s0 :: s1 :: s2 :: s3 :: s4 :: s5 :: s6 :: s7 :: .own ds :: ρ) := id rfl
theorem f8_vrv (k : D → En → Res β) : cps (eVar 8) (s0 :: s1 :: s2 :: s3 :: s4 :: s5 :: s6 :: s7 :: .val d :: ρ) k = k d (s0 :: s1 :: s2 :: s3 :: s4 :: s5 :: s6 :: s7 :: .val d :: ρ) := id rfl
theorem f8_vro (k : D → En → Res β) : cps (eVar 8) (s0 :: s1 :: s2 :: s3 :: s4 :: s5 :: s6 :: s7 :: .own ds :: ρ) k = k (.list ds) (s0 :: s1 :: s2 :: s3 :: s4 :: s5 :: s6 :: s7 :: .val (.list ds) :: ρ) := id rfl
theorem f8_iso (k : Unit → En → Res β) : cps (isO 8) (s0 :: s1 :: s2 :: s3 :: s4 :: s5 :: s6 :: s7 :: .own ds :: ρ) k = k () (s0 :: s1 :: s2 :: s3 :: s4 :: s5 :: s6 :: s7 :: .own ds :: ρ) := id rfl
theorem f8_isT (k : Unit → En → Res β) : cps (isDI 8) (s0 :: s1 :: s2 :: s3 :: s4 :: s5 :: s6 :: s7 :: .dT kt :: ρ) k = k () (s0 :: s1 :: s2 :: s3 :: s4 :: s5 :: s6 :: s7 :: .dT kt :: ρ) := id rfl
theorem f8_isK (k : Unit → En → Res β) : cps (isDI 8) (s0 :: s1 :: s2 :: s3 :: s4 :: s5 :: s6 :: s7 :: .dK kk :: ρ) k = k () (s0 :: s1 :: s2 :: s3 :: s4 :: s5 :: s6 :: s7 :: .dK kk :: ρ) := id rfl
theorem f8_stV (k : Unit → En → Res β) : cps (setV 8 d) (s0 :: s1 :: s2 :: s3 :: s4 :: s5 :: s6 :: s7 :: s8 :: ρ) k = k () (s0 :: s1 :: s2 :: s3 :: s4 :: s5 :: s6 :: s7 :: .val d :: ρ) := st_at (a := .val d) rfl
theorem f8_stO (k : Unit → En → Res β) : cps (setO 8 ds) (s0 :: s1 :: s2 :: s3 :: s4 :: s5 :: s6 :: s7 :: s8 :: ρ) k = k () (s0 :: s1 :: s2 :: s3 :: s4 :: s5 :: s6 :: s7 :: .own ds :: ρ) := st_at (a := .own ds) rfl
theorem f8_stS (s : Sl) (k : Unit → En → Res β) : cps (setS 8 s) (s0 :: s1 :: s2 :: s3 :: s4 :: s5 :: s6 :: s7 :: s8 :: ρ) k = k () (s0 :: s1 :: s2 :: s3 :: s4 :: s5 :: s6 :: s7 :: s :: ρ) := st_at (a := s) rfl
theorem f8_app (k : Unit → En → Res β) : cps (appO 8 d) (s0 :: s1 :: s2 :: s3 :: s4 :: s5 :: s6 :: s7 :: .own ds :: ρ) k = (appR ds d).bind fun l => k () (s0 :: s1 :: s2 :: s3 :: s4 :: s5 :: s6 :: s7 :: .own l :: ρ) := ap_at rfl rfl
theorem f8_ext (k : Unit → En → Res β) : cps (extO 8 d) (s0 :: s1 :: s2 :: s3 :: s4 :: s5 :: s6 :: s7 :: .own ds :: ρ) k = (extR ds d).bind fun l => k () (s0 :: s1 :: s2 :: s3 :: s4 :: s5 :: s6 :: s7 :: .own l :: ρ) := ex_at rfl rfl
theorem f8_six (k : Unit → En → Res β) : cps (setIxO 8 d e) (s0 :: s1 :: s2 :: s3 :: s4 :: s5 :: s6 :: s7 :: .own ds :: ρ) k = (setR ds d e).bind fun l => k () (s0 :: s1 :: s2 :: s3 :: s4 :: s5 :: s6 :: s7 :: .own l :: ρ) := sx_at rfl rfl
theorem f8_pop (k : D → En → Res β) : cps (popO 8) (s0 :: s1 :: s2 :: s3 :: s4 :: s5 :: s6 :: s7 :: .own ds :: ρ) k = (popR ds).bind fun l => k l.1 (s0 :: s1 :: s2 :: s3 :: s4 :: s5 :: s6 :: s7 :: .own l.2 :: ρ) := po_at rfl rfl
theorem f8_poa (k : D → En → Res β) : cps (popAtO 8 d) (s0 :: s1 :: s2 :: s3 :: s4 :: s5 :: s6 :: s7 :: .own ds :: ρ) k = (popAtR ds d).bind fun l => k l.1 (s0 :: s1 :: s2 :: s3 :: s4 :: s5 :: s6 :: s7 :: .own l.2 :: ρ) := pa_at rfl rfl
theorem f8_get (k : Option D → En → Res β) : cps (getDI 8 d) (s0 :: s1 :: s2 :: s3 :: s4 :: s5 :: s6 :: s7 :: .dT kt :: ρ) k = (getTR kt d).bind fun l => k l (s0 :: s1 :: s2 :: s3 :: s4 :: s5 :: s6 :: s7 :: .dT kt :: ρ) := gt_at rfl rfl
theorem f8_gek (k : Option D → En → Res β) : cps (getDI 8 d) (s0 :: s1 :: s2 :: s3 :: s4 :: s5 :: s6 :: s7 :: .dK kk :: ρ) k = (getKR kk d).bind fun l => k l (s0 :: s1 :: s2 :: s3 :: s4 :: s5 :: s6 :: s7 :: .dK kk :: ρ) := gk_at rfl rfl
theorem f8_put (k : Unit → En → Res β) : cps (putDI 8 d e) (s0 :: s1 :: s2 :: s3 :: s4 :: s5 :: s6 :: s7 :: .dT kt :: ρ) k = (putTR kt d e).bind fun l => k () (s0 :: s1 :: s2 :: s3 :: s4 :: s5 :: s6 :: s7 :: .dT l :: ρ) := pt_at rfl rfl
theorem f8_puk (k : Unit → En → Res β) : cps (putDI 8 d e) (s0 :: s1 :: s2 :: s3 :: s4 :: s5 :: s6 :: s7 :: .dK kk :: ρ) k = (putKR kk d e).bind fun l => k () (s0 :: s1 :: s2 :: s3 :: s4 :: s5 :: s6 :: s7 :: .dK l :: ρ) := pk_at rfl rfl
theorem f8_sok (k : List D → En → Res β) : cps (eSortD 8) (s0 :: s1 :: s2 :: s3 :: s4 :: s5 :: s6 :: s7 :: .dK kk :: ρ) k = (sortKR kk).bind fun l => k l (s0 :: s1 :: s2 :: s3 :: s4 :: s5 :: s6 :: s7 :: .dK kk :: ρ) := so_at rfl
theorem f8_sot (k : List D → En → Res β) : cps (eSortT 8) (s0 :: s1 :: s2 :: s3 :: s4 :: s5 :: s6 :: s7 :: .dT kt :: ρ) k = (sortTR kt).bind fun l => k l (s0 :: s1 :: s2 :: s3 :: s4 :: s5 :: s6 :: s7 :: .dT kt :: ρ) := sot_at rfl
theorem f8_lid (k : List D → En → Res β) : cps (eListD 8) (s0 :: s1 :: s2 :: s3 :: s4 :: s5 :: s6 :: s7 :: .dT kt :: ρ) k = (listDT kt).bind fun l => k l (s0 :: s1 :: s2 :: s3 :: s4 :: s5 :: s6 :: s7 :: .dT kt :: ρ) := lid_at rfl
theorem f8_cal (f : List D → List D → Res (D × List D)) (k : D → En → Res β) : cps (callO 8 f es) (s0 :: s1 :: s2 :: s3 :: s4 :: s5 :: s6 :: s7 :: .own ds :: ρ) k = (nxR (f ds es)).bind fun l => k l.1 (s0 :: s1 :: s2 :: s3 :: s4 :: s5 :: s6 :: s7 :: .own l.2 :: ρ) := ca_at rfl rfl
theorem f8_fz (k : Fl → En → Res β) : cps (sPre (8 :: fz) wp g) (s0 :: s1 :: s2 :: s3 :: s4 :: s5 :: s6 :: s7 :: .own ds :: ρ) k = cps (sPre fz wp g) (s0 :: s1 :: s2 :: s3 :: s4 :: s5 :: s6 :: s7 :: .val (.list ds) :: ρ) k := id rfl
theorem f8_wp (k : Fl → En → Res β) : cps (sPre [] (8 :: wp) g) (s0 :: s1 :: s2 :: s3 :: s4 :: s5 :: s6 :: s7 :: s8 :: ρ) k = cps (sPre [] wp g) (s0 :: s1 :: s2 :: s3 :: s4 :: s5 :: s6 :: s7 :: .emp :: ρ) k := id rfl
theorem f9_nmv (k : M D → En → Res β) : cps (eNm 9) (s0 :: s1 :: s2 :: s3 :: s4 :: s5 :: s6 :: s7 :: s8 :: .val d :: ρ) k = k (eAt 9) (s0 :: s1 :: s2 :: s3 :: s4 :: s5 :: s6 :: s7 :: s8 :: .val d :: ρ) := id rfl
theorem f9_nmo (k : M D → En → Res β) : cps (eNm 9) (s0 :: s1 :: s2 :: s3 :: s4 :: s5 :: s6 :: s7 :: s8 :: .own ds :: ρ) k = k (eAt 9) (s0 :: s1 :: s2 :: s3 :: s4 :: s5 :: s6 :: s7 :: s8 :: .own ds :: ρ) := id rfl
theorem f9_atv (k : D → En → Res β) : cps (eAt 9) (s0 :: s1 :: s2 :: s3 :: s4 :: s5 :: s6 :: s7 :: s8 :: .val d :: ρ) k = k d (s0 :: s1 :: s2 :: s3 :: s4 :: s5 :: s6 :: s7 :: s8 :: .val d :: ρ) := id rfl
theorem f9_ato (k : D → En → Res β) : cps (eAt 9) (s0 :: s1 :: s2 :: s3 :: s4 :: s5 :: s6 :: s7 :: s8 :: .own ds :: ρ) k = k (.list ds) (s0 :: s1 :: s2 :: s3 :: s4 :: s5 :: s6 :: s7 :: s8 :: .own ds :: ρ) := id rfl
theorem f9_vrv (k : D → En → Res β) : cps (eVar 9) (s0 :: s1 :: s2 :: s3 :: s4 :: s5 :: s6 :: s7 :: s8 :: .val d :: ρ) k = k d (s0 :: s1 :: s2 :: s3 :: s4 :: s5 :: s6 :: s7 :: s8 :: .val d :: ρ) := id rfl
theorem f9_vro (k : D → En → Res β) : cps (eVar 9) (s0 :: s1 :: s2 :: s3 :: s4 :: s5 :: s6 :: s7 :: s8 :: .own ds :: ρ) k = k (.list ds) (s0 :: s1 :: s2 :: s3 :: s4 :: s5 :: s6 :: s7 :: s8 :: .val (.list ds) :: ρ) := id rfl
theorem f9_iso (k : Unit → En → Res β) : cps (isO 9) (s0 :: s1 :: s2 :: s3 :: s4 :: s5 :: s6 :: s7 :: s8 :: .own ds :: ρ) k = k () (s0 :: s1 :: s2 :: s3 :: s4 :: s5 :: s6 :: s7 :: s8 :: .own ds :: ρ) := id rfl
theorem f9_isT (k : Unit → En → Res β) : cps (isDI 9) (s0 :: s1 :: s2 :: s3 :: s4 :: s5 :: s6 :: s7 :: s8 :: .dT kt :: ρ) k = k () (s0 :: s1 :: s2 :: s3 :: s4 :: s5 :: s6 :: s7 :: s8 :: .dT kt :: ρ) := id rfl
theorem f9_isK (k : Unit → En → Res β) : cps (isDI 9) (s0 :: s1 :: s2 :: s3 :: s4 :: s5 :: s6 :: s7 :: s8 :: .dK kk :: ρ) k = k () (s0 :: s1 :: s2 :: s3 :: s4 :: s5 :: s6 :: s7 :: s8 :: .dK kk :: ρ) := id rfl
theorem f9_stV (k : Unit → En → Res β) : cps (setV 9 d) (s0 :: s1 :: s2 :: s3 :: s4 :: s5 :: s6 :: s7 :: s8 :: s9 :: ρ) k = k () (s0 :: s1 :: s2 :: s3 :: s4 :: s5 :: s6 :: s7 :: s8 :: .val d :: ρ) := st_at (a := .val d) rfl
theorem f9_stO (k : Unit → En → Res β) : cps (setO 9 ds) (s0 :: s1 :: s2 :: s3 :: s4 :: s5 :: s6 :: s7 :: s8 :: s9 :: ρ) k = k () (s0 :: s1 :: s2 :: s3 :: s4 :: s5 :: s6 :: s7 :: s8 :: .own ds :: ρ) := st_at (a := .own ds) rfl
theorem f9_stS (s : Sl) (k : Unit → En → Res β) : cps (setS 9 s) (s0 :: s1 :: s2 :: s3 :: s4 :: s5 :: s6 :: s7 :: s8 :: s9 :: ρ) k = k () (s0 :: s1 :: s2 :: s3 :: s4 :: s5 :: s6 :: s7 :: s8 :: s :: ρ) := st_at (a := s) rfl
theorem f9_app (k : Unit → En → Res β) : cps (appO 9 d) (s0 :: s1 :: s2 :: s3 :: s4 :: s5 :: s6 :: s7 :: s8 :: .own ds :: ρ) k = (appR ds d).bind fun l => k () (s0 :: s1 :: s2 :: s3 :: s4 :: s5 :: s6 :: s7 :: s8 :: .own l :: ρ) := ap_at rfl rfl
theorem f9_ext (k : Unit → En → Res β) : cps (extO 9 d) (s0 :: s1 :: s2 :: s3 :: s4 :: s5 :: s6 :: s7 :: s8 :: .own ds :: ρ) k = (extR ds d).bind fun l => k () (s0 :: s1 :: s2 :: s3 :: s4 :: s5 :: s6 :: s7 :: s8 :: .own l :: ρ) := ex_at rfl rfl
theorem f9_six (k : Unit → En → Res β) : cps (setIxO 9 d e) (s0 :: s1 :: s2 :: s3 :: s4 :: s5 :: s6 :: s7 :: s8 :: .own ds :: ρ) k = (setR ds d e).bind fun l => k () (s0 :: s1 :: s2 :: s3 :: s4 :: s5 :: s6 :: s7 :: s8 :: .own l :: ρ) := sx_at rfl rfl
theorem f9_pop (k : D → En → Res β) : cps (popO 9) (s0 :: s1 :: s2 :: s3 :: s4 :: s5 :: s6 :: s7 :: s8 :: .own ds :: ρ) k = (popR ds).bind fun l => k l.1 (s0 :: s1 :: s2 :: s3 :: s4 :: s5 :: s6 :: s7 :: s8 :: .own l.2 :: ρ) := po_at rfl rfl
theorem f9_poa (k : D → En → Res β) : cps (popAtO 9 d) (s0 :: s1 :: s2 :: s3 :: s4 :: s5 :: s6 :: s7 :: s8 :: .own ds :: ρ) k = (popAtR ds d).bind fun l => k l.1 (s0 :: s1 :: s2 :: s3 :: s4 :: s5 :: s6 :: s7 :: s8 :: .own l.2 :: ρ) := pa_at rfl rfl
theorem f9_get (k : Option D → En → Res β) : cps (getDI 9 d) (s0 :: s1 :: s2 :: s3 :: s4 :: s5 :: s6 :: s7 :: s8 :: .dT kt :: ρ) k = (getTR kt d).bind fun l => k l (s0 :: s1 :: s2 :: s3 :: s4 :: s5 :: s6 :: s7 :: s8 :: .dT kt :: ρ) := gt_at rfl rfl
theorem f9_gek (k : Option D → En → Res β) : cps (getDI 9 d) (s0 :: s1 :: s2 :: s3 :: s4 :: s5 :: s6 :: s7 :: s8 :: .dK kk :: ρ) k = (getKR kk d).bind fun l => k l (s0 :: s1 :: s2 :: s3 :: s4 :: s5 :: s6 :: s7 :: s8 :: .dK kk :: ρ) := gk_at rfl rfl
theorem f9_put (k : Unit → En → Res β) : cps (putDI 9 d e) (s0 :: s1 :: s2 :: s3 :: s4 :: s5 :: s6 :: s7 :: s8 :: .dT kt :: ρ) k = (putTR kt d e).bind fun l => k () (s0 :: s1 :: s2 :: s3 :: s4 :: s5 :: s6 :: s7 :: s8 :: .dT l :: ρ) := pt_at rfl rfl
theorem f9_puk (k : Unit → En → Res β) : cps (putDI 9 d e) (s0 :: s1 :: s2 :: s3 :: s4 :: s5 :: s6 :: s7 :: s8 :: .dK kk :: ρ) k = (putKR kk d e).bind fun l => k () (s0 :: s1 :: s2 :: s3 :: s4 :: s5 :: s6 :: s7 :: s8 :: .dK l :: ρ) := pk_at rfl rfl
theorem f9_sok (k : List D → En → Res β) : cps (eSortD 9) (s0 :: s1 :: s2 :: s3 :: s4 :: s5 :: s6 :: s7 :: s8 :: .dK kk :: ρ) k = (sortKR kk).bind fun l => k l (s0 :: s1 :: s2 :: s3 :: s4 :: s5 :: s6 :: s7 :: s8 :: .dK kk :: ρ) := so_at rfl
theorem f9_sot (k : List D → En → Res β) : cps (eSortT 9) (s0 :: s1 :: s2 :: s3 :: s4 :: s5 :: s6 :: s7 :: s8 :: .dT kt :: ρ) k = (sortTR kt).bind fun l => k l (s0 :: s1 :: s2 :: s3 :: s4 :: s5 :: s6 :: s7 :: s8 :: .dT kt :: ρ) := sot_at rfl
theorem f9_lid (k : List D → En → Res β) : cps (eListD 9) (s0 :: s1 :: s2 :: s3 :: s4 :: s5 :: s6 :: s7 :: s8 :: .dT kt :: ρ) k = (listDT kt).bind fun l => k l (s0 :: s1 :: s2 :: s3 :: s4 :: s5 :: s6 :: s7 :: s8 :: .dT kt :: ρ) := lid_at rfl
theorem f9_cal (f : List D → List D → Res (D × List D)) (k : D → En → Res β) : cps (callO 9 f es) (s0 :: s1 :: s2 :: s3 :: s4 :: s5 :: s6 :: s7 :: s8 :: .own ds :: ρ) k = (nxR (f ds es)).bind fun l => k l.1 (s0 :: s1 :: s2 :: s3 :: s4 :: s5 :: s6 :: s7 :: s8 :: .own l.2 :: ρ) := ca_at rfl rfl
theorem f9_fz (k : Fl → En → Res β) : cps (sPre (9 :: fz) wp g) (s0 :: s1 :: s2 :: s3 :: s4 :: s5 :: s6 :: s7 :: s8 :: .own ds :: ρ) k = cps (sPre fz wp g) (s0 :: s1 :: s2 :: s3 :: s4 :: s5 :: s6 :: s7 :: s8 :: .val (.list ds) :: ρ) k := id rfl
theorem f9_wp (k : Fl → En → Res β) : cps (sPre [] (9 :: wp) g) (s0 :: s1 :: s2 :: s3 :: s4 :: s5 :: s6 :: s7 :: s8 :: s9 :: ρ) k = cps (sPre [] wp g) (s0 :: s1 :: s2 :: s3 :: s4 :: s5 :: s6 :: s7 :: s8 :: .emp :: ρ) k := id rfl
theorem f10_nmv (k : M D → En → Res β) : cps (eNm 10) (s0 :: s1 :: s2 :: s3 :: s4 :: s5 :: s6 :: s7 :: s8 :: s9 :: .val d :: ρ) k = k (eAt 10) (s0 :: s1 :: s2 :: s3 :: s4 :: s5 :: s6 :: s7 :: s8 :: s9 :: .val d :: ρ) := id rfl
theorem f10_nmo (k : M D → En → Res β) : cps (eNm 10) (s0 :: s1 :: s2 :: s3 :: s4 :: s5 :: s6 :: s7 :: s8 :: s9 :: .own ds :: ρ) k = k (eAt 10) (s0 :: s1 :: s2 :: s3 :: s4 :: s5 :: s6 :: s7 :: s8 :: s9 :: .own ds :: ρ) := id rfl
theorem f10_atv (k : D → En → Res β) : cps (eAt 10) (s0 :: s1 :: s2 :: s3 :: s4 :: s5 :: s6 :: s7 :: s8 :: s9 :: .val d :: ρ) k = k d (s0 :: s1 :: s2 :: s3 :: s4 :: s5 :: s6 :: s7 :: s8 :: s9 :: .val d :: ρ) := id rfl
theorem f10_ato (k : D → En → Res β) : cps (eAt 10) (s0 :: s1 :: s2 :: s3 :: s4 :: s5 :: s6 :: s7 :: s8 :: s9 :: .own ds :: ρ) k = k (.list ds) (s0 :: s1 :: s2 :: s3 :: s4 :: s5 :: s6 :: s7 :: s8 :: s9 :: .own ds :: ρ) := id rfl
theorem f10_vrv (k : D → En → Res β) : cps (eVar 10) (s0 :: s1 :: s2 :: s3 :: s4 :: s5 :: s6 :: s7 :: s8 :: s9 :: .val d :: ρ) k = k d (s0 :: s1 :: s2 :: s3 :: s4 :: s5 :: s6 :: s7 :: s8 :: s9 :: .val d :: ρ) := id rfl
theorem f10_vro (k : D → En → Res β) : cps (eVar 10) (s0 :: s1 :: s2 :: s3 :: s4 :: s5 :: s6 :: s7 :: s8 :: s9 :: .own ds :: ρ) k = k (.list ds) (s0 :: s1 :: s2 :: s3 :: s4 :: s5 :: s6 :: s7 :: s8 :: s9 :: .val (.list ds) :: ρ) := id rfl
theorem f10_iso (k : Unit → En → Res β) : cps (isO 10) (s0 :: s1 :: s2 :: s3 :: s4 :: s5 :: s6 :: s7 :: s8 :: s9 :: .own ds :: ρ) k = k () (s0 :: s1 :: s2 :: s3 :: s4 :: s5 :: s6 :: s7 :: s8 :: s9 :: .own ds :: ρ) := id rfl
theorem f10_isT (k : Unit → En → Res β) : cps (isDI 10) (s0 :: s1 :: s2 :: s3 :: s4 :: s5 :: s6 :: s7 :: s8 :: s9 :: .dT kt :: ρ) k = k () (s0 :: s1 :: s2 :: s3 :: s4 :: s5 :: s6 :: s7 :: s8 :: s9 :: .dT kt :: ρ) := id rfl
theorem f10_isK (k : Unit → En → Res β) : cps (isDI 10) (s0 :: s1 :: s2 :: s3 :: s4 :: s5 :: s6 :: s7 :: s8 :: s9 :: .dK kk :: ρ) k = k () (s0 :: s1 :: s2 :: s3 :: s4 :: s5 :: s6 :: s7 :: s8 :: s9 :: .dK kk :: ρ) := id rfl
theorem f10_stV (k : Unit → En → Res β) : cps (setV 10 d) (s0 :: s1 :: s2 :: s3 :: s4 :: s5 :: s6 :: s7 :: s8 :: s9 :: s10 :: ρ) k = k () (s0 :: s1 :: s2 :: s3 :: s4 :: s5 :: s6 :: s7 :: s8 :: s9 :: .val d :: ρ) := st_at (a := .val d) rfl
theorem f10_stO (k : Unit → En → Res β) : cps (setO 10 ds) (s0 :: s1 :: s2 :: s3 :: s4 :: s5 :: s6 :: s7 :: s8 :: s9 :: s10 :: ρ) k = k () (s0 :: s1 :: s2 :: s3 :: s4 :: s5 :: s6 :: s7 :: s8 :: s9 :: .own ds :: ρ) := st_at (a := .own ds) rfl
theorem f10_stS (s : Sl) (k : Unit → En → Res β) : cps (setS 10 s) (s0 :: s1 :: s2 :: s3 :: s4 :: s5 :: s6 :: s7 :: s8 :: s9 :: s10 :: ρ) k = k () (s0 :: s1 :: s2 :: s3 :: s4 :: s5 :: s6 :: s7 :: s8 :: s9 :: s :: ρ) := st_at (a := s) rfl
theorem f10_app (k : Unit → En → Res β) : cps (appO 10 d) (s0 :: s1 :: s2 :: s3 :: s4 :: s5 :: s6 :: s7 :: s8 :: s9 :: .own ds :: ρ) k = (appR ds d).bind fun l => k () (s0 :: s1 :: s2 :: s3 :: s4 :: s5 :: s6 :: s7 :: s8 :: s9 :: .own l :: ρ) := ap_at rfl rfl
theorem f10_ext (k : Unit → En → Res β) : cps (extO 10 d) (s0 :: s1 :: s2 :: s3 :: s4 :: s5 :: s6 :: s7 :: s8 :: s9 :: .own ds :: ρ) k = (extR ds d).bind fun l => k () (s0 :: s1 :: s2 :: s3 :: s4 :: s5 :: s6 :: s7 :: s8 :: s9 :: .own l :: ρ) := ex_at rfl rfl
theorem f10_six (k : Unit → En → Res β) : cps (setIxO 10 d e) (s0 :: s1 :: s2 :: s3 :: s4 :: s5 :: s6 :: s7 :: s8 :: s9 :: .own ds :: ρ) k = (setR ds d e).bind fun l => k () (s0 :: s1 :: s2 :: s3 :: s4 :: s5 :: s6 :: s7 :: s8 :: s9 :: .own l :: ρ) := sx_at rfl rfl
theorem f10_pop (k : D → En → Res β) : cps (popO 10) (s0 :: s1 :: s2 :: s3 :: s4 :: s5 :: s6 :: s7 :: s8 :: s9 :: .own ds :: ρ) k = (popR ds).bind fun l => k l.1 (s0 :: s1 :: s2 :: s3 :: s4 :: s5 :: s6 :: s7 :: s8 :: s9 :: .own l.2 :: ρ) := po_at rfl rfl
theorem f10_poa (k : D → En → Res β) : cps (popAtO 10 d) (s0 :: s1 :: s2 :: s3 :: s4 :: s5 :: s6 :: s7 :: s8 :: s9 :: .own ds :: ρ) k = (popAtR ds d).bind fun l => k l.1 (s0 :: s1 :: s2 :: s3 :: s4 :: s5 :: s6 :: s7 :: s8 :: s9 :: .own l.2 :: ρ) := pa_at rfl rfl
theorem f10_get (k : Option D → En → Res β) : cps (getDI 10 d) (s0 :: s1 :: s2 :: s3 :: s4 :: s5 :: s6 :: s7 :: s8 :: s9 :: .dT kt :: ρ) k = (getTR kt d).bind fun l => k l (s0 :: s1 :: s2 :: s3 :: s4 :: s5 :: s6 :: s7 :: s8 :: s9 :: .dT kt :: ρ) := gt_at rfl rfl
theorem f10_gek (k : Option D → En → Res β) : cps (getDI 10 d) (s0 :: s1 :: s2 :: s3 :: s4 :: s5 :: s6 :: s7 :: s8 :: s9 :: .dK kk :: ρ) k = (getKR kk d).bind fun l => k l (s0 :: s1 :: s2 :: s3 :: s4 :: s5 :: s6 :: s7 :: s8 :: s9 :: .dK kk :: ρ) := gk_at rfl rfl
theorem f10_put (k : Unit → En → Res β) : cps (putDI 10 d e) (s0 :: s1 :: s2 :: s3 :: s4 :: s5 :: s6 :: s7 :: s8 :: s9 :: .dT kt :: ρ) k = (putTR kt d e).bind fun l => k () (s0 :: s1 :: s2 :: s3 :: s4 :: s5 :: s6 :: s7 :: s8 :: s9 :: .dT l :: ρ) := pt_at rfl rfl
theorem f10_puk (k : Unit → En → Res β) : cps (putDI 10 d e) (s0 :: s1 :: s2 :: s3 :: s4 :: s5 :: s6 :: s7 :: s8 :: s9 :: .dK kk :: ρ) k = (putKR kk d e).bind fun l => k () (s0 :: s1 :: s2 :: s3 :: s4 :: s5 :: s6 :: s7 :: s8 :: s9 :: .dK l :: ρ) := pk_at rfl rfl
theorem f10_sok (k : List D → En → Res β) : cps (eSortD 10) (s0 :: s1 :: s2 :: s3 :: s4 :: s5 :: s6 :: s7 :: s8 :: s9 :: .dK kk :: ρ) k = (sortKR kk).bind fun l => k l (s0 :: s1 :: s2 :: s3 :: s4 :: s5 :: s6 :: s7 :: s8 :: s9 :: .dK kk :: ρ) := so_at rfl
theorem f10_sot (k : List D → En → Res β) : cps (eSortT 10) (s0 :: s1 :: s2 :: s3 :: s4 :: s5 :: s6 :: s7 :: s8 :: s9 :: .dT kt :: ρ) k = (sortTR kt).bind fun l => k l (s0 :: s1 :: s2 :: s3 :: s4 :: s5 :: s6 :: s7 :: s8 :: s9 :: .dT kt :: ρ) := sot_at rfl
theorem f10_lid (k : List D → En → Res β) : cps (eListD 10) (s0 :: s1 :: s2 :: s3 :: s4 :: s5 :: s6 :: s7 :: s8 :: s9 :: .dT kt :: ρ) k = (listDT kt).bind fun l => k l (s0 :: s1 :: s2 :: s3 :: s4 :: s5 :: s6 :: s7 :: s8 :: s9 :: .dT kt :: ρ) := lid_at rfl
theorem f10_cal (f : List D → List D → Res (D × List D)) (k : D → En → Res β) : cps (callO 10 f es) (s0 :: s1 :: s2 :: s3 :: s4 :: s5 :: s6 :: s7 :: s8 :: s9 :: .own ds :: ρ) k = (nxR (f ds es)).bind fun l => k l.1 (s0 :: s1 :: s2 :: s3 :: s4 :: s5 :: s6 :: s7 :: s8 :: s9 :: .own l.2 :: ρ) := ca_at rfl rfl
theorem f10_fz (k : Fl → En → Res β) : cps (sPre (10 :: fz) wp g) (s0 :: s1 :: s2 :: s3 :: s4 :: s5 :: s6 :: s7 :: s8 :: s9 :: .own ds :: ρ) k = cps (sPre fz wp g) (s0 :: s1 :: s2 :: s3 :: s4 :: s5 :: s6 :: s7 :: s8 :: s9 :: .val (.list ds) :: ρ) k := id rfl
theorem f10_wp (k : Fl → En → Res β) : cps (sPre [] (10 :: wp) g) (s0 :: s1 :: s2 :: s3 :: s4 :: s5 :: s6 :: s7 :: s8 :: s9 :: s10 :: ρ) k = cps (sPre [] wp g) (s0 :: s1 :: s2 :: s3 :: s4 :: s5 :: s6 :: s7 :: s8 :: s9 :: .emp :: ρ) k := id rfl
theorem f11_nmv (k : M D → En → Res β) : cps (eNm 11) (s0 :: s1 :: s2 :: s3 :: s4 :: s5 :: s6 :: s7 :: s8 :: s9 :: s10 :: .val d :: ρ) k = k (eAt 11) (s0 :: s1 :: s2 :: s3 :: s4 :: s5 :: s6 :: s7 :: s8 :: s9 :: s10 :: .val d :: ρ) := id rfl
theorem f11_nmo (k : M D → En → Res β) : cps (eNm 11) (s0 :: s1 :: s2 :: s3 :: s4 :: s5 :: s6 :: s7 :: s8 :: s9 :: s10 :: .own ds :: ρ) k = k (eAt 11) (s0 :: s1 :: s2 :: s3 :: s4 :: s5 :: s6 :: s7 :: s8 :: s9 :: s10 :: .own ds :: ρ) := id rfl
theorem f11_atv (k : D → En → Res β) : cps (eAt 11) (s0 :: s1 :: s2 :: s3 :: s4 :: s5 :: s6 :: s7 :: s8 :: s9 :: s10 :: .val d :: ρ) k = k d (s0 :: s1 :: s2 :: s3 :: s4 :: s5 :: s6 :: s7 :: s8 :: s9 :: s10 :: .val d :: ρ) := id rfl
theorem f11_ato (k : D → En → Res β) : cps (eAt 11) (s0 :: s1 :: s2 :: s3 :: s4 :: s5 :: s6 :: s7 :: s8 :: s9 :: s10 :: .own ds :: ρ) k = k (.list ds) (s0 :: s1 :: s2 :: s3 :: s4 :: s5 :: s6 :: s7 :: s8 :: s9 :: s10 :: .own ds :: ρ) := id rfl
theorem f11_vrv (k : D → En → Res β) : cps (eVar 11) (s0 :: s1 :: s2 :: s3 :: s4 :: s5 :: s6 :: s7 :: s8 :: s9 :: s10 :: .val d :: ρ) k = k d (s0 :: s1 :: s2 :: s3 :: s4 :: s5 :: s6 :: s7 :: s8 :: s9 :: s10 :: .val d :: ρ) := id rfl
theorem f11_vro (k : D → En → Res β) : cps (eVar 11) (s0 :: s1 :: s2 :: s3 :: s4 :: s5 :: s6 :: s7 :: s8 :: s9 :: s10 :: .own ds :: ρ) k = k (.list ds) (s0 :: s1 :: s2 :: s3 :: s4 :: s5 :: s6 :: s7 :: s8 :: s9 :: s10 :: .val (.list ds) :: ρ) := id rfl
theorem f11_iso (k : Unit → En → Res β) : cps (isO 11) (s0 :: s1 :: s2 :: s3 :: s4 :: s5 :: s6 :: s7 :: s8 :: s9 :: s10 :: .own ds :: ρ) k = k () (s0 :: s1 :: s2 :: s3 :: s4 :: s5 :: s6 :: s7 :: s8 :: s9 :: s10 :: .own ds :: ρ) := id rfl
theorem f11_isT (k : Unit → En → Res β) : cps (isDI 11) (s0 :: s1 :: s2 :: s3 :: s4 :: s5 :: s6 :: s7 :: s8 :: s9 :: s10 :: .dT kt :: ρ) k = k () (s0 :: s1 :: s2 :: s3 :: s4 :: s5 :: s6 :: s7 :: s8 :: s9 :: s10 :: .dT kt :: ρ) := id rfl
theorem f11_isK (k : Unit → En → Res β) : cps (isDI 11) (s0 :: s1 :: s2 :: s3 :: s4 :: s5 :: s6 :: s7 :: s8 :: s9 :: s10 :: .dK kk :: ρ) k = k () (s0 :: s1 :: s2 :: s3 :: s4 :: s5 :: s6 :: s7 :: s8 :: s9 :: s10 :: .dK kk :: ρ) := id rfl
theorem f11_stV (k : Unit → En → Res β) : cps (setV 11 d) (s0 :: s1 :: s2 :: s3 :: s4 :: s5 :: s6 :: s7 :: s8 :: s9 :: s10 :: s11 :: ρ) k = k () (s0 :: s1 :: s2 :: s3 :: s4 :: s5 :: s6 :: s7 :: s8 :: s9 :: s10 :: .val d :: ρ) := st_at (a := .val d) rfl
theorem f11_stO (k : Unit → En → Res β) : cps (setO 11 ds) (s0 :: s1 :: s2 :: s3 :: s4 :: s5 :: s6 :: s7 :: s8 :: s9 :: s10 :: s11 :: ρ) k = k () (s0 :: s1 :: s2 :: s3 :: s4 :: s5 :: s6 :: s7 :: s8 :: s9 :: s10 :: .own ds :: ρ) := st_at (a := .own ds) rfl
theorem f11_stS (s : Sl) (k : Unit → En → Res β) : cps (setS 11 s) (s0 :: s1 :: s2 :: s3 :: s4 :: s5 :: s6 :: s7 :: s8 :: s9 :: s10 :: s11 :: ρ) k = k () (s0 :: s1 :: s2 :: s3 :: s4 :: s5 :: s6 :: s7 :: s8 :: s9 :: s10 :: s :: ρ) := st_at (a := s) rfl
theorem f11_app (k : Unit → En → Res β) : cps (appO 11 d) (s0 :: s1 :: s2 :: s3 :: s4 :: s5 :: s6 :: s7 :: s8 :: s9 :: s10 :: .own ds :: ρ) k = (appR ds d).bind fun l => k () (s0 :: s1 :: s2 :: s3 :: s4 :: s5 :: s6 :: s7 :: s8 :: s9 :: s10 :: .own l :: ρ) := ap_at rfl rfl
theorem f11_ext (k : Unit → En → Res β) : cps (extO 11 d) (s0 :: s1 :: s2 :: s3 :: s4 :: s5 :: s6 :: s7 :: s8 :: s9 :: s10 :: .own ds :: ρ) k = (extR ds d).bind fun l => k () (s0 :: s1 :: s2 :: s3 :: s4 :: s5 :: s6 :: s7 :: s8 :: s9 :: s10 :: .own l :: ρ) := ex_at rfl rfl
theorem f11_six (k : Unit → En → Res β) : cps (setIxO 11 d e) (s0 :: s1 :: s2 :: s3 :: s4 :: s5 :: s6 :: s7 :: s8 :: s9 :: s10 :: .own ds :: ρ) k = (setR ds d e).bind fun l => k () (s0 :: s1 :: s2 :: s3 :: s4 :: s5 :: s6 :: s7 :: s8 :: s9 :: s10 :: .own l :: ρ) := sx_at rfl rfl
theorem f11_pop (k : D → En → Res β) : cps (popO 11) (s0 :: s1 :: s2 :: s3 :: s4 :: s5 :: s6 :: s7 :: s8 :: s9 :: s10 :: .own ds :: ρ) k = (popR ds).bind fun l => k l.1 (s0 :: s1 :: s2 :: s3 :: s4 :: s5 :: s6 :: s7 :: s8 :: s9 :: s10 :: .own l.2 :: ρ) := po_at rfl rfl
theorem f11_poa (k : D → En → Res β) : cps (popAtO 11 d) (s0 :: s1 :: s2 :: s3 :: s4 :: s5 :: s6 :: s7 :: s8 :: s9 :: s10 :: .own ds :: ρ) k = (popAtR ds d).bind fun l => k l.1 (s0 :: s1 :: s2 :: s3 :: s4 :: s5 :: s6 :: s7 :: s8 :: s9 :: s10 :: .own l.2 :: ρ) := pa_at rfl rfl
theorem f11_get (k : Option D → En → Res β) : cps (getDI 11 d) (s0 :: s1 :: s2 :: s3 :: s4 :: s5 :: s6 :: s7 :: s8 :: s9 :: s10 :: .dT kt :: ρ) k = (getTR kt d).bind fun l => k l (s0 :: s1 :: s2 :: s3 :: s4 :: s5 :: s6 :: s7 :: s8 :: s9 :: s10 :: .dT kt :: ρ) := gt_at rfl rfl
theorem f11_gek (k : Option D → En → Res β) : cps (getDI 11 d) (s0 :: s1 :: s2 :: s3 :: s4 :: s5 :: s6 :: s7 :: s8 :: s9 :: s10 :: .dK kk :: ρ) k = (getKR kk d).bind fun l => k l (s0 :: s1 :: s2 :: s3 :: s4 :: s5 :: s6 :: s7 :: s8 :: s9 :: s10 :: .dK kk :: ρ) := gk_at rfl rfl
theorem f11_put (k : Unit → En → Res β) : cps (putDI 11 d e) (s0 :: s1 :: s2 :: s3 :: s4 :: s5 :: s6 :: s7 :: s8 :: s9 :: s10 :: .dT kt :: ρ) k = (putTR kt d e).bind fun l => k () (s0 :: s1 :: s2 :: s3 :: s4 :: s5 :: s6 :: s7 :: s8 :: s9 :: s10 :: .dT l :: ρ) := pt_at rfl rfl
theorem f11_puk (k : Unit → En → Res β) : cps (putDI 11 d e) (s0 :: s1 :: s2 :: s3 :: s4 :: s5 :: s6 :: s7 :: s8 :: s9 :: s10 :: .dK kk :: ρ) k = (putKR kk d e).bind fun l => k () (s0 :: s1 :: s2 :: s3 :: s4 :: s5 :: s6 :: s7 :: s8 :: s9 :: s10 :: .dK l :: ρ) := pk_at rfl rfl
theorem f11_sok (k : List D → En → Res β) : cps (eSortD 11) (s0 :: s1 :: s2 :: s3 :: s4 :: s5 :: s6 :: s7 :: s8 :: s9 :: s10 :: .dK kk :: ρ) k = (sortKR kk).bind fun l => k l (s0 :: s1 :: s2 :: s3 :: s4 :: s5 :: s6 :: s7 :: s8 :: s9 :: s10 :: .dK kk :: ρ) := so_at rfl
theorem f11_sot (k : List D → En → Res β) : cps (eSortT 11) (s0 :: s1 :: s2 :: s3 :: s4 :: s5 :: s6 :: s7 :: s8 :: s9 :: s10 :: .dT kt :: ρ) k = (sortTR kt).bind fun l => k l (s0 :: s1 :: s2 :: s3 :: s4 :: s5 :: s6 :: s7 :: s8 :: s9 :: s10 :: .dT kt :: ρ) := sot_at rfl
theorem f11_lid (k : List D → En → Res β) : cps (eListD 11) (s0 :: s1 :: s2 :: s3 :: s4 :: s5 :: s6 :: s7 :: s8 :: s9 :: s10 :: .dT kt :: ρ) k = (listDT kt).bind fun l => k l (s0 :: s1 :: s2 :: s3 :: s4 :: s5 :: s6 :: s7 :: s8 :: s9 :: s10 :: .dT kt :: ρ) := lid_at rfl
theorem f11_cal (f : List D → List D → Res (D × List D)) (k : D → En → Res β) : cps (callO 11 f es) (s0 :: s1 :: s2 :: s3 :: s4 :: s5 :: s6 :: s7 :: s8 :: s9 :: s10 :: .own ds :: ρ) k = (nxR (f ds es)).bind fun l => k l.1 (s0 :: s1 :: s2 :: s3 :: s4 :: s5 :: s6 :: s7 :: s8 :: s9 :: s10 :: .own l.2 :: ρ) := ca_at rfl rfl
theorem f11_fz (k : Fl → En → Res β) : cps (sPre (11 :: fz) wp g) (s0 :: s1 :: s2 :: s3 :: s4 :: s5 :: s6 :: s7 :: s8 :: s9 :: s10 :: .own ds :: ρ) k = cps (sPre fz wp g) (s0 :: s1 :: s2 :: s3 :: s4 :: s5 :: s6 :: s7 :: s8 :: s9 :: s10 :: .val (.list ds) :: ρ) k := id rfl
theorem f11_wp (k : Fl → En → Res β) : cps (sPre [] (11 :: wp) g) (s0 :: s1 :: s2 :: s3 :: s4 :: s5 :: s6 :: s7 :: s8 :: s9 :: s10 :: s11 :: ρ) k = cps (sPre [] wp g) (s0 :: s1 :: s2 :: s3 :: s4 :: s5 :: s6 :: s7 :: s8 :: s9 :: s10 :: .emp :: ρ) k := id rfl
theorem f12_nmv (k : M D → En → Res β) : cps (eNm 12) (s0 :: s1 :: s2 :: s3 :: s4 :: s5 :: s6 :: s7 :: s8 :: s9 :: s10 :: s11 :: .val d :: ρ) k = k (eAt 12) (s0 :: s1 :: s2 :: s3 :: s4 :: s5 :: s6 :: s7 :: s8 :: s9 :: s10 :: s11 :: .val d :: ρ) := id rfl
theorem f12_nmo (k : M D → En → Res β) : cps (eNm 12) (s0 :: s1 :: s2 :: s3 :: s4 :: s5 :: s6 :: s7 :: s8 :: s9 :: s10 :: s11 :: .own ds :: ρ) k = k (eAt 12) (s0 :: s1 :: s2 :: s3 :: s4 :: s5 :: s6 :: s7 :: s8 :: s9 :: s10 :: s11 :: .own ds :: ρ) := id rfl
theorem f12_atv (k : D → En → Res β) : cps (eAt 12) (s0 :: s1 :: s2 :: s3 :: s4 :: s5 :: s6 :: s7 :: s8 :: s9 :: s10 :: s11 :: .val d :: ρ) k = k d (s0 :: s1 :: s2 :: s3 :: s4 :: s5 :: s6 :: s7 :: s8 :: s9 :: s10 :: s11 :: .val d :: ρ) := id rfl
theorem f12_ato (k : D → En → Res β) : cps (eAt 12) (s0 :: s1 :: s2 :: s3 :: s4 :: s5 :: s6 :: s7 :: s8 :: s9 :: s10 :: s11 :: .own ds :: ρ) k = k (.list ds) (s0 :: s1 :: s2 :: s3 :: s4 :: s5 :: s6 :: s7 :: s8 :: s9 :: s10 :: s11 :: .own ds :: ρ) := id rfl
theorem f12_vrv (k : D → En → Res β) : cps (eVar 12) (s0 :: s1 :: s2 :: s3 :: s4 :: s5 :: s6 :: s7 :: s8 :: s9 :: s10 :: s11 :: .val d :: ρ) k = k d (s0 :: s1 :: s2 :: s3 :: s4 :: s5 :: s6 :: s7 :: s8 :: s9 :: s10 :: s11 :: .val d :: ρ) := id rfl
theorem f12_vro (k : D → En → Res β) : cps (eVar 12) (s0 :: s1 :: s2 :: s3 :: s4 :: s5 :: s6 :: s7 :: s8 :: s9 :: s10 :: s11 :: .own ds :: ρ) k = k (.list ds) (s0 :: s1 :: s2 :: s3 :: s4 :: s5 :: s6 :: s7 :: s8 :: s9 :: s10 :: s11 :: .val (.list ds) :: ρ) := id rfl
theorem f12_iso (k : Unit → En → Res β) : cps (isO 12) (s0 :: s1 :: s2 :: s3 :: s4 :: s5 :: s6 :: s7 :: s8 :: s9 :: s10 :: s11 :: .own ds :: ρ) k = k () (s0 :: s1 :: s2 :: s3 :: s4 :: s5 :: s6 :: s7 :: s8 :: s9 :: s10 :: s11 :: .own ds :: ρ) := id rfl
theorem f12_isT (k : Unit → En → Res β) : cps (isDI 12) (s0 :: s1 :: s2 :: s3 :: s4 :: s5 :: s6 :: s7 :: s8 :: s9 :: s10 :: s11 :: .dT kt :: ρ) k = k () (s0 :: s1 :: s2 :: s3 :: s4 :: s5 :: s6 :: s7 :: s8 :: s9 :: s10 :: s11 :: .dT kt :: ρ) := id rfl
theorem f12_isK (k : Unit → En → Res β) : cps (isDI 12) (s0 :: s1 :: s2 :: s3 :: s4 :: s5 :: s6 :: s7 :: s8 :: s9 :: s10 :: s11 :: .dK kk :: ρ) k = k () (s0 :: s1 :: s2 :: s3 :: s4 :: s5 :: s6 :: s7 :: s8 :: s9 :: s10 :: s11 :: .dK kk :: ρ) := id rfl
theorem f12_stV (k : Unit → En → Res β) : cps (setV 12 d) (s0 :: s1 :: s2 :: s3 :: s4 :: s5 :: s6 :: s7 :: s8 :: s9 :: s10 :: s11 :: s12 :: ρ) k = k () (s0 :: s1 :: s2 :: s3 :: s4 :: s5 :: s6 :: s7 :: s8 :: s9 :: s10 :: s11 :: .val d :: ρ) := st_at (a := .val d) rfl
theorem f12_stO (k : Unit → En → Res β) : cps (setO 12 ds) (s0 :: s1 :: s2 :: s3 :: s4 :: s5 :: s6 :: s7 :: s8 :: s9 :: s10 :: s11 :: s12 :: ρ) k = k () (s0 :: s1 :: s2 :: s3 :: s4 :: s5 :: s6 :: s7 :: s8 :: s9 :: s10 :: s11 :: .own ds :: ρ) := st_at (a := .own ds) rfl
theorem f12_stS (s : Sl) (k : Unit → En → Res β) : cps (setS 12 s) (s0 :: s1 :: s2 :: s3 :: s4 :: s5 :: s6 :: s7 :: s8 :: s9 :: s10 :: s11 :: s12 :: ρ) k = k () (s0 :: s1 :: s2 :: s3 :: s4 :: s5 :: s6 :: s7 :: s8 :: s9 :: s10 :: s11 :: s :: ρ) := st_at (a := s) rfl
theorem f12_app (k : Unit → En → Res β) : cps (appO 12 d) (s0 :: s1 :: s2 :: s3 :: s4 :: s5 :: s6 :: s7 :: s8 :: s9 :: s10 :: s11 :: .own ds :: ρ) k = (appR ds d).bind fun l => k () (s0 :: s1 :: s2 :: s3 :: s4 :: s5 :: s6 :: s7 :: s8 :: s9 :: s10 :: s11 :: .own l :: ρ) := ap_at rfl rfl
theorem f12_ext (k : Unit → En → Res β) : cps (extO 12 d) (s0 :: s1 :: s2 :: s3 :: s4 :: s5 :: s6 :: s7 :: s8 :: s9 :: s10 :: s11 :: .own ds :: ρ) k = (extR ds d).bind fun l => k () (s0 :: s1 :: s2 :: s3 :: s4 :: s5 :: s6 :: s7 :: s8 :: s9 :: s10 :: s11 :: .own l :: ρ) := ex_at rfl rfl
theorem f12_six (k : Unit → En → Res β) : cps (setIxO 12 d e) (s0 :: s1 :: s2 :: s3 :: s4 :: s5 :: s6 :: s7 :: s8 :: s9 :: s10 :: s11 :: .own ds :: ρ) k = (setR ds d e).bind fun l => k () (s0 :: s1 :: s2 :: s3 :: s4 :: s5 :: s6 :: s7 :: s8 :: s9 :: s10 :: s11 :: .own l :: ρ) := sx_at rfl rfl
theorem f12_pop (k : D → En → Res β) : cps (popO 12) (s0 :: s1 :: s2 :: s3 :: s4 :: s5 :: s6 :: s7 :: s8 :: s9 :: s10 :: s11 :: .own ds :: ρ) k = (popR ds).bind fun l => k l.1 (s0 :: s1 :: s2 :: s3 :: s4 :: s5 :: s6 :: s7 :: s8 :: s9 :: s10 :: s11 :: .own l.2 :: ρ) := po_at rfl rfl
theorem f12_poa (k : D → En → Res β) : cps (popAtO 12 d) (s0 :: s1 :: s2 :: s3 :: s4 :: s5 :: s6 :: s7 :: s8 :: s9 :: s10 :: s11 :: .own ds :: ρ) k = (popAtR ds d).bind fun l => k l.1 (s0 :: s1 :: s2 :: s3 :: s4 :: s5 :: s6 :: s7 :: s8 :: s9 :: s10 :: s11 :: .own l.2 :: ρ) := pa_at rfl rfl
theorem f12_get (k : Option D → En → Res β) : cps (getDI 12 d) (s0 :: s1 :: s2 :: s3 :: s4 :: s5 :: s6 :: s7 :: s8 :: s9 :: s10 :: s11 :: .dT kt :: ρ) k = (getTR kt d).bind fun l => k l (s0 :: s1 :: s2 :: s3 :: s4 :: s5 :: s6 :: s7 :: s8 :: s9 :: s10 :: s11 :: .dT kt :: ρ) := gt_at rfl rfl
theorem f12_gek (k : Option D → En → Res β) : cps (getDI 12 d) (s0 :: s1 :: s2 :: s3 :: s4 :: s5 :: s6 :: s7 :: s8 :: s9 :: s10 :: s11 :: .dK kk :: ρ) k = (getKR kk d).bind fun l => k l (s0 :: s1 :: s2 :: s3 :: s4 :: s5 :: s6 :: s7 :: s8 :: s9 :: s10 :: s11 :: .dK kk :: ρ) := gk_at rfl rfl
theorem f12_put (k : Unit → En → Res β) : cps (putDI 12 d e) (s0 :: s1 :: s2 :: s3 :: s4 :: s5 :: s6 :: s7 :: s8 :: s9 :: s10 :: s11 :: .dT kt :: ρ) k = (putTR kt d e).bind fun l => k () (s0 :: s1 :: s2 :: s3 :: s4 :: s5 :: s6 :: s7 :: s8 :: s9 :: s10 :: s11 :: .dT l :: ρ) := pt_at rfl rfl
theorem f12_puk (k : Unit → En → Res β) : cps (putDI 12 d e) (s0 :: s1 :: s2 :: s3 :: s4 :: s5 :: s6 :: s7 :: s8 :: s9 :: s10 :: s11 :: .dK kk :: ρ) k = (putKR kk d e).bind fun l => k () (s0 :: s1 :: s2 :: s3 :: s4 :: s5 :: s6 :: s7 :: s8 :: s9 :: s10 :: s11 :: .dK l :: ρ) := pk_at rfl rfl
theorem f12_sok (k : List D → En → Res β) : cps (eSortD 12) (s0 :: s1 :: s2 :: s3 :: s4 :: s5 :: s6 :: s7 :: s8 :: s9 :: s10 :: s11 :: .dK kk :: ρ) k = (sortKR kk).bind fun l => k l (s0 :: s1 :: s2 :: s3 :: s4 :: s5 :: s6 :: s7 :: s8 :: s9 :: s10 :: s11 :: .dK kk :: ρ) := so_at rfl
theorem f12_sot (k : List D → En → Res β) : cps (eSortT 12) (s0 :: s1 :: s2 :: s3 :: s4 :: s5 :: s6 :: s7 :: s8 :: s9 :: s10 :: s11 :: .dT kt :: ρ) k = (sortTR kt).bind fun l => k l (s0 :: s1 :: s2 :: s3 :: s4 :: s5 :: s6 :: s7 :: s8 :: s9 :: s10 :: s11 :: .dT kt :: ρ) := sot_at rfl
theorem f12_lid (k : List D → En → Res β) : cps (eListD 12) (s0 :: s1 :: s2 :: s3 :: s4 :: s5 :: s6 :: s7 :: s8 :: s9 :: s10 :: s11 :: .dT kt :: ρ) k = (listDT kt).bind fun l => k l (s0 :: s1 :: s2 :: s3 :: s4 :: s5 :: s6 :: s7 :: s8 :: s9 :: s10 :: s11 :: .dT kt :: ρ) := lid_at rfl
theorem f12_cal (f : List D → List D → Res (D × List D)) (k : D → En → Res β) : cps (callO 12 f es) (s0 :: s1 :: s2 :: s3 :: s4 :: s5 :: s6 :: s7 :: s8 :: s9 :: s10 :: s11 :: .own ds :: ρ) k = (nxR (f ds es)).bind fun l => k l.1 (s0 :: s1 :: s2 :: s3 :: s4 :: s5 :: s6 :: s7 :: s8 :: s9 :: s10 :: s11 :: .own l.2 :: ρ) := ca_at rfl rfl
theorem f12_fz (k : Fl → En → Res β) : cps (sPre (12 :: fz) wp g) (s0 :: s1 :: s2 :: s3 :: s4 :: s5 :: s6 :: s7 :: s8 :: s9 :: s10 :: s11 :: .own ds :: ρ) k = cps (sPre fz wp g) (s0 :: s1 :: s2 :: s3 :: s4 :: s5 :: s6 :: s7 :: s8 :: s9 :: s10 :: s11 :: .val (.list ds) :: ρ) k := id rfl
theorem f12_wp (k : Fl → En → Res β) : cps (sPre [] (12 :: wp) g) (s0 :: s1 :: s2 :: s3 :: s4 :: s5 :: s6 :: s7 :: s8 :: s9 :: s10 :: s11 :: s12 :: ρ) k = cps (sPre [] wp g) (s0 :: s1 :: s2 :: s3 :: s4 :: s5 :: s6 :: s7 :: s8 :: s9 :: s10 :: s11 :: .emp :: ρ) k := id rfl
theorem f13_nmv (k : M D → En → Res β) : cps (eNm 13) (s0 :: s1 :: s2 :: s3 :: s4 :: s5 :: s6 :: s7 :: s8 :: s9 :: s10 :: s11 :: s12 :: .val d :: ρ) k = k (eAt 13) (s0 :: s1 :: s2 :: s3 :: s4 :: s5 :: s6 :: s7 :: s8 :: s9 :: s10 :: s11 :: s12 :: .val d :: ρ) := id rfl
theorem f13_nmo (k : M D → En → Res β) : cps (eNm 13) (s0 :: s1 :: s2 :: s3 :: s4 :: s5 :: s6 :: s7 :: s8 :: s9 :: s10 :: s11 :: s12 :: .own ds :: ρ) k = k (eAt 13) (s0 :: s1 :: s2 :: s3 :: s4 :: s5 :: s6 :: s7 :: s8 :: s9 :: s10 :: s11 :: s12 :: .own ds :: ρ) := id rfl
theorem f13_atv (k : D → En → Res β) : cps (eAt 13) (s0 :: s1 :: s2 :: s3 :: s4 :: s5 :: s6 :: s7 :: s8 :: s9 :: s10 :: s11 :: s12 :: .val d :: ρ) k = k d (s0 :: s1 :: s2 :: s3 :: s4 :: s5 :: s6 :: s7 :: s8 :: s9 :: s10 :: s11 :: s12 :: .val d :: ρ) := id rfl
theorem f13_ato (k : D → En → Res β) : cps (eAt 13) (s0 :: s1 :: s2 :: s3 :: s4 :: s5 :: s6 :: s7 :: s8 :: s9 :: s10 :: s11 :: s12 :: .own ds :: ρ) k = k (.list ds) (s0 :: s1 :: s2 :: s3 :: s4 :: s5 :: s6 :: s7 :: s8 :: s9 :: s10 :: s11 :: s12 :: .own ds :: ρ) := id rfl
theorem f13_vrv (k : D → En → Res β) : cps (eVar 13) (s0 :: s1 :: s2 :: s3 :: s4 :: s5 :: s6 :: s7 :: s8 :: s9 :: s10 :: s11 :: s12 :: .val d :: ρ) k = k d (s0 :: s1 :: s2 :: s3 :: s4 :: s5 :: s6 :: s7 :: s8 :: s9 :: s10 :: s11 :: s12 :: .val d :: ρ) := id rfl
theorem f13_vro (k : D → En → Res β) : cps (eVar 13) (s0 :: s1 :: s2 :: s3 :: s4 :: s5 :: s6 :: s7 :: s8 :: s9 :: s10 :: s11 :: s12 :: .own ds :: ρ) k = k (.list ds) (s0 :: s1 :: s2 :: s3 :: s4 :: s5 :: s6 :: s7 :: s8 :: s9 :: s10 :: s11 :: s12 :: .val (.list ds) :: ρ) := id rfl
theorem f13_iso (k : Unit → En → Res β) : cps (isO 13) (s0 :: s1 :: s2 :: s3 :: s4 :: s5 :: s6 :: s7 :: s8 :: s9 :: s10 :: s11 :: s12 :: .own ds :: ρ) k = k () (s0 :: s1 :: s2 :: s3 :: s4 :: s5 :: s6 :: s7 :: s8 :: s9 :: s10 :: s11 :: s12 :: .own ds :: ρ) := id rfl
theorem f13_isT (k : Unit → En → Res β) : cps (isDI 13) (s0 :: s1 :: s2 :: s3 :: s4 :: s5 :: s6 :: s7 :: s8 :: s9 :: s10 :: s11 :: s12 :: .dT kt :: ρ) k = k () (s0 :: s1 :: s2 :: s3 :: s4 :: s5 :: s6 :: s7 :: s8 :: s9 :: s10 :: s11 :: s12 :: .dT kt :: ρ) := id rfl
theorem f13_isK (k : Unit → En → Res β) : cps (isDI 13) (s0 :: s1 :: s2 :: s3 :: s4 :: s5 :: s6 :: s7 :: s8 :: s9 :: s10 :: s11 :: s12 :: .dK kk :: ρ) k = k () (s0 :: s1 :: s2 :: s3 :: s4 :: s5 :: s6 :: s7 :: s8 :: s9 :: s10 :: s11 :: s12 :: .dK kk :: ρ) := id rfl
theorem f13_stV (k : Unit → En → Res β) : cps (setV 13 d) (s0 :: s1 :: s2 :: s3 :: s4 :: s5 :: s6 :: s7 :: s8 :: s9 :: s10 :: s11 :: s12 :: s13 :: ρ) k = k () (s0 :: s1 :: s2 :: s3 :: s4 :: s5 :: s6 :: s7 :: s8 :: s9 :: s10 :: s11 :: s12 :: .val d :: ρ) := st_at (a := .val d) rfl
theorem f13_stO (k : Unit → En → Res β) : cps (setO 13 ds) (s0 :: s1 :: s2 :: s3 :: s4 :: s5 :: s6 :: s7 :: s8 :: s9 :: s10 :: s11 :: s12 :: s13 :: ρ) k = k () (s0 :: s1 :: s2 :: s3 :: s4 :: s5 :: s6 :: s7 :: s8 :: s9 :: s10 :: s11 :: s12 :: .own ds :: ρ) := st_at (a := .own ds) rfl
theorem f13_stS (s : Sl) (k : Unit → En → Res β) : cps (setS 13 s) (s0 :: s1 :: s2 :: s3 :: s4 :: s5 :: s6 :: s7 :: s8 :: s9 :: s10 :: s11 :: s12 :: s13 :: ρ) k = k () (s0 :: s1 :: s2 :: s3 :: s4 :: s5 :: s6 :: s7 :: s8 :: s9 :: s10 :: s11 :: s12 :: s :: ρ) := st_at (a := s) rfl
theorem f13_app (k : Unit → En → Res β) : cps (appO 13 d) (s0 :: s1 :: s2 :: s3 :: s4 :: s5 :: s6 :: s7 :: s8 :: s9 :: s10 :: s11 :: s12 :: .own ds :: ρ) k = (appR ds d).bind fun l => k () (s0 :: s1 :: s2 :: s3 :: s4 :: s5 :: s6 :: s7 :: s8 :: s9 :: s10 :: s11 :: s12 :: .own l :: ρ) := ap_at rfl rfl
theorem f13_ext (k : Unit → En → Res β) : cps (extO 13 d) (s0 :: s1 :: s2 :: s3 :: s4 :: s5 :: s6 :: s7 :: s8 :: s9 :: s10 :: s11 :: s12 :: .own ds :: ρ) k = (extR ds d).bind fun l => k () (s0 :: s1 :: s2 :: s3 :: s4 :: s5 :: s6 :: s7 :: s8 :: s9 :: s10 :: s11 :: s12 :: .own l :: ρ) := ex_at rfl rfl
theorem f13_six (k : Unit → En → Res β) : cps (setIxO 13 d e) (s0 :: s1 :: s2 :: s3 :: s4 :: s5 :: s6 :: s7 :: s8 :: s9 :: s10 :: s11 :: s12 :: .own ds :: ρ) k = (setR ds d e).bind fun l => k () (s0 :: s1 :: s2 :: s3 :: s4 :: s5 :: s6 :: s7 :: s8 :: s9 :: s10 :: s11 :: s12 :: .own l :: ρ) := sx_at rfl rfl
theorem f13_pop (k : D → En → Res β) : cps (popO 13) (s0 :: s1 :: s2 :: s3 :: s4 :: s5 :: s6 :: s7 :: s8 :: s9 :: s10 :: s11 :: s12 :: .own ds :: ρ) k = (popR ds).bind fun l => k l.1 (s0 :: s1 :: s2 :: s3 :: s4 :: s5 :: s6 :: s7 :: s8 :: s9 :: s10 :: s11 :: s12 :: .own l.2 :: ρ) := po_at rfl rfl
theorem f13_poa (k : D → En → Res β) : cps (popAtO 13 d) (s0 :: s1 :: s2 :: s3 :: s4 :: s5 :: s6 :: s7 :: s8 :: s9 :: s10 :: s11 :: s12 :: .own ds :: ρ) k = (popAtR ds d).bind fun l => k l.1 (s0 :: s1 :: s2 :: s3 :: s4 :: s5 :: s6 :: s7 :: s8 :: s9 :: s10 :: s11 :: s12 :: .own l.2 :: ρ) := pa_at rfl rfl
theorem f13_get (k : Option D → En → Res β) : cps (getDI 13 d) (s0 :: s1 :: s2 :: s3 :: s4 :: s5 :: s6 :: s7 :: s8 :: s9 :: s10 :: s11 :: s12 :: .dT kt :: ρ) k = (getTR kt d).bind fun l => k l (s0 :: s1 :: s2 :: s3 :: s4 :: s5 :: s6 :: s7 :: s8 :: s9 :: s10 :: s11 :: s12 :: .dT kt :: ρ) := gt_at rfl rfl
theorem f13_gek (k : Option D → En → Res β) : cps (getDI 13 d) (s0 :: s1 :: s2 :: s3 :: s4 :: s5 :: s6 :: s7 :: s8 :: s9 :: s10 :: s11 :: s12 :: .dK kk :: ρ) k = (getKR kk d).bind fun l => k l (s0 :: s1 :: s2 :: s3 :: s4 :: s5 :: s6 :: s7 :: s8 :: s9 :: s10 :: s11 :: s12 :: .dK kk :: ρ) := gk_at rfl rfl
theorem f13_put (k : Unit → En → Res β) : cps (putDI 13 d e) (s0 :: s1 :: s2 :: s3 :: s4 :: s5 :: s6 :: s7 :: s8 :: s9 :: s10 :: s11 :: s12 :: .dT kt :: ρ) k = (putTR kt d e).bind fun l => k () (s0 :: s1 :: s2 :: s3 :: s4 :: s5 :: s6 :: s7 :: s8 :: s9 :: s10 :: s11 :: s12 :: .dT l :: ρ) := pt_at rfl rfl
theorem f13_puk (k : Unit → En → Res β) : cps (putDI 13 d e) (s0 :: s1 :: s2 :: s3 :: s4 :: s5 :: s6 :: s7 :: s8 :: s9 :: s10 :: s11 :: s12 :: .dK kk :: ρ) k = (putKR kk d e).bind fun l => k () (s0 :: s1 :: s2 :: s3 :: s4 :: s5 :: s6 :: s7 :: s8 :: s9 :: s10 :: s11 :: s12 :: .dK l :: ρ) := pk_at rfl rfl
theorem f13_sok (k : List D → En → Res β) : cps (eSortD 13) (s0 :: s1 :: s2 :: s3 :: s4 :: s5 :: s6 :: s7 :: s8 :: s9 :: s10 :: s11 :: s12 :: .dK kk :: ρ) k = (sortKR kk).bind fun l => k l (s0 :: s1 :: s2 :: s3 :: s4 :: s5 :: s6 :: s7 :: s8 :: s9 :: s10 :: s11 :: s12 :: .dK kk :: ρ) := so_at rfl
theorem f13_sot (k : List D → En → Res β) : cps (eSortT 13) (s0 :: s1 :: s2 :: s3 :: s4 :: s5 :: s6 :: s7 :: s8 :: s9 :: s10 :: s11 :: s12 :: .dT kt :: ρ) k = (sortTR kt).bind fun l => k l (s0 :: s1 :: s2 :: s3 :: s4 :: s5 :: s6 :: s7 :: s8 :: s9 :: s10 :: s11 :: s12 :: .dT kt :: ρ) := sot_at rfl
theorem f13_lid (k : List D → En → Res β) : cps (eListD 13) (s0 :: s1 :: s2 :: s3 :: s4 :: s5 :: s6 :: s7 :: s8 :: s9 :: s10 :: s11 :: s12 :: .dT kt :: ρ) k = (listDT kt).bind fun l => k l (s0 :: s1 :: s2 :: s3 :: s4 :: s5 :: s6 :: s7 :: s8 :: s9 :: s10 :: s11 :: s12 :: .dT kt :: ρ) := lid_at rfl
theorem f13_cal (f : List D → List D → Res (D × List D)) (k : D → En → Res β) : cps (callO 13 f es) (s0 :: s1 :: s2 :: s3 :: s4 :: s5 :: s6 :: s7 :: s8 :: s9 :: s10 :: s11 :: s12 :: .own ds :: ρ) k = (nxR (f ds es)).bind fun l => k l.1 (s0 :: s1 :: s2 :: s3 :: s4 :: s5 :: s6 :: s7 :: s8 :: s9 :: s10 :: s11 :: s12 :: .own l.2 :: ρ) := ca_at rfl rfl
theorem f13_fz (k : Fl → En → Res β) : cps (sPre (13 :: fz) wp g) (s0 :: s1 :: s2 :: s3 :: s4 :: s5 :: s6 :: s7 :: s8 :: s9 :: s10 :: s11 :: s12 :: .own ds :: ρ) k = cps (sPre fz wp g) (s0 :: s1 :: s2 :: s3 :: s4 :: s5 :: s6 :: s7 :: s8 :: s9 :: s10 :: s11 :: s12 :: .val (.list ds) :: ρ) k := id rfl
theorem f13_wp (k : Fl → En → Res β) : cps (sPre [] (13 :: wp) g) (s0 :: s1 :: s2 :: s3 :: s4 :: s5 :: s6 :: s7 :: s8 :: s9 :: s10 :: s11 :: s12 :: s13 :: ρ) k = cps (sPre [] wp g) (s0 :: s1 :: s2 :: s3 :: s4 :: s5 :: s6 :: s7 :: s8 :: s9 :: s10 :: s11 :: s12 :: .emp :: ρ) k := id rfl
theorem f14_nmv (k : M D → En → Res β) : cps (eNm 14) (s0 :: s1 :: s2 :: s3 :: s4 :: s5 :: s6 :: s7 :: s8 :: s9 :: s10 :: s11 :: s12 :: s13 :: .val d :: ρ) k = k (eAt 14) (s0 :: s1 :: s2 :: s3 :: s4 :: s5 :: s6 :: s7 :: s8 :: s9 :: s10 :: s11 :: s12 :: s13 :: .val d :: ρ) := id rfl
theorem f14_nmo (k : M D → En → Res β) : cps (eNm 14) (s0 :: s1 :: s2 :: s3 :: s4 :: s5 :: s6 :: s7 :: s8 :: s9 :: s10 :: s11 :: s12 :: s13 :: .own ds :: ρ) k = k (eAt 14) (s0 :: s1 :: s2 :: s3 :: s4 :: s5 :: s6 :: s7 :: s8 :: s9 :: s10 :: s11 :: s12 :: s13 :: .own ds :: ρ) := id rfl
theorem f14_atv (k : D → En → Res β) : cps (eAt 14) (s0 :: s1 :: s2 :: s3 :: s4 :: s5 :: s6 :: s7 :: s8 :: s9 :: s10 :: s11 :: s12 :: s13 :: .val d :: ρ) k = k d (s0 :: s1 :: s2 :: s3 :: s4 :: s5 :: s6 :: s7 :: s8 :: s9 :: s10 :: s11 :: s12 :: s13 :: .val d :: ρ) := id rfl
theorem f14_ato (k : D → En → Res β) : cps (eAt 14) (s0 :: s1 :: s2 :: s3 :: s4 :: s5 :: s6 :: s7 :: s8 :: s9 :: s10 :: s11 :: s12 :: s13 :: .own ds :: ρ) k = k (.list ds) (s0 :: s1 :: s2 :: s3 :: s4 :: s5 :: s6 :: s7 :: s8 :: s9 :: s10 :: s11 :: s12 :: s13 :: .own ds :: ρ) := id rfl
theorem f14_vrv (k : D → En → Res β) : cps (eVar 14) (s0 :: s1 :: s2 :: s3 :: s4 :: s5 :: s6 :: s7 :: s8 :: s9 :: s10 :: s11 :: s12 :: s13 :: .val d :: ρ) k = k d (s0 :: s1 :: s2 :: s3 :: s4 :: s5 :: s6 :: s7 :: s8 :: s9 :: s10 :: s11 :: s12 :: s13 :: .val d :: ρ) := id rfl
theorem f14_vro (k : D → En → Res β) : cps (eVar 14) (s0 :: s1 :: s2 :: s3 :: s4 :: s5 :: s6 :: s7 :: s8 :: s9 :: s10 :: s11 :: s12 :: s13 :: .own ds :: ρ) k = k (.list ds) (s0 :: s1 :: s2 :: s3 :: s4 :: s5 :: s6 :: s7 :: s8 :: s9 :: s10 :: s11 :: s12 :: s13 :: .val (.list ds) :: ρ) := id rfl
theorem f14_iso (k : Unit → En → Res β) : cps (isO 14) (s0 :: s1 :: s2 :: s3 :: s4 :: s5 :: s6 :: s7 :: s8 :: s9 :: s10 :: s11 :: s12 :: s13 :: .own ds :: ρ) k = k () (s0 :: s1 :: s2 :: s3 :: s4 :: s5 :: s6 :: s7 :: s8 :: s9 :: s10 :: s11 :: s12 :: s13 :: .own ds :: ρ) := id rfl
theorem f14_isT (k : Unit → En → Res β) : cps (isDI 14) (s0 :: s1 :: s2 :: s3 :: s4 :: s5 :: s6 :: s7 :: s8 :: s9 :: s10 :: s11 :: s12 :: s13 :: .dT kt :: ρ) k = k () (s0 :: s1 :: s2 :: s3 :: s4 :: s5 :: s6 :: s7 :: s8 :: s9 :: s10 :: s11 :: s12 :: s13 :: .dT kt :: ρ) := id rfl
theorem f14_isK (k : Unit → En → Res β) : cps (isDI 14) (s0 :: s1 :: s2 :: s3 :: s4 :: s5 :: s6 :: s7 :: s8 :: s9 :: s10 :: s11 :: s12 :: s13 :: .dK kk :: ρ) k = k () (s0 :: s1 :: s2 :: s3 :: s4 :: s5 :: s6 :: s7 :: s8 :: s9 :: s10 :: s11 :: s12 :: s13 :: .dK kk :: ρ) := id rfl
theorem f14_stV (k : Unit → En → Res β) : cps (setV 14 d) (s0 :: s1 :: s2 :: s3 :: s4 :: s5 :: s6 :: s7 :: s8 :: s9 :: s10 :: s11 :: s12 :: s13 :: s14 :: ρ) k = k () (s0 :: s1 :: s2 :: s3 :: s4 :: s5 :: s6 :: s7 :: s8 :: s9 :: s10 :: s11 :: s12 :: s13 :: .val d :: ρ) := st_at (a := .val d) rfl
theorem f14_stO (k : Unit → En → Res β) : cps (setO 14 ds) (s0 :: s1 :: s2 :: s3 :: s4 :: s5 :: s6 :: s7 :: s8 :: s9 :: s10 :: s11 :: s12 :: s13 :: s14 :: ρ) k = k () (s0 :: s1 :: s2 :: s3 :: s4 :: s5 :: s6 :: s7 :: s8 :: s9 :: s10 :: s11 :: s12 :: s13 :: .own ds :: ρ) := st_at (a := .own ds) rfl
theorem f14_stS (s : Sl) (k : Unit → En → Res β) : cps (setS 14 s) (s0 :: s1 :: s2 :: s3 :: s4 :: s5 :: s6 :: s7 :: s8 :: s9 :: s10 :: s11 :: s12 :: s13 :: s14 :: ρ) k = k () (s0 :: s1 :: s2 :: s3 :: s4 :: s5 :: s6 :: s7 :: s8 :: s9 :: s10 :: s11 :: s12 :: s13 :: s :: ρ) := st_at (a := s) rfl
theorem f14_app (k : Unit → En → Res β) : cps (appO 14 d) (s0 :: s1 :: s2 :: s3 :: s4 :: s5 :: s6 :: s7 :: s8 :: s9 :: s10 :: s11 :: s12 :: s13 :: .own ds :: ρ) k = (appR ds d).bind fun l => k () (s0 :: s1 :: s2 :: s3 :: s4 :: s5 :: s6 :: s7 :: s8 :: s9 :: s10 :: s11 :: s12 :: s13 :: .own l :: ρ) := ap_at rfl rfl
theorem f14_ext (k : Unit → En → Res β) : cps (extO 14 d) (s0 :: s1 :: s2 :: s3 :: s4 :: s5 :: s6 :: s7 :: s8 :: s9 :: s10 :: s11 :: s12 :: s13 :: .own ds :: ρ) k = (extR ds d).bind fun l => k () (s0 :: s1 :: s2 :: s3 :: s4 :: s5 :: s6 :: s7 :: s8 :: s9 :: s10 :: s11 :: s12 :: s13 :: .own l :: ρ) := ex_at rfl rfl
theorem f14_six (k : Unit → En → Res β) : cps (setIxO 14 d e) (s0 :: s1 :: s2 :: s3 :: s4 :: s5 :: s6 :: s7 :: s8 :: s9 :: s10 :: s11 :: s12 :: s13 :: .own ds :: ρ) k = (setR ds d e).bind fun l => k () (s0 :: s1 :: s2 :: s3 :: s4 :: s5 :: s6 :: s7 :: s8 :: s9 :: s10 :: s11 :: s12 :: s13 :: .own l :: ρ) := sx_at rfl rfl
theorem f14_pop (k : D → En → Res β) : cps (popO 14) (s0 :: s1 :: s2 :: s3 :: s4 :: s5 :: s6 :: s7 :: s8 :: s9 :: s10 :: s11 :: s12 :: s13 :: .own ds :: ρ) k = (popR ds).bind fun l => k l.1 (s0 :: s1 :: s2 :: s3 :: s4 :: s5 :: s6 :: s7 :: s8 :: s9 :: s10 :: s11 :: s12 :: s13 :: .own l.2 :: ρ) := po_at rfl rfl
theorem f14_poa (k : D → En → Res β) : cps (popAtO 14 d) (s0 :: s1 :: s2 :: s3 :: s4 :: s5 :: s6 :: s7 :: s8 :: s9 :: s10 :: s11 :: s12 :: s13 :: .own ds :: ρ) k = (popAtR ds d).bind fun l => k l.1 (s0 :: s1 :: s2 :: s3 :: s4 :: s5 :: s6 :: s7 :: s8 :: s9 :: s10 :: s11 :: s12 :: s13 :: .own l.2 :: ρ) := pa_at rfl rfl
theorem f14_get (k : Option D → En → Res β) : cps (getDI 14 d) (s0 :: s1 :: s2 :: s3 :: s4 :: s5 :: s6 :: s7 :: s8 :: s9 :: s10 :: s11 :: s12 :: s13 :: .dT kt :: ρ) k = (getTR kt d).bind fun l => k l (s0 :: s1 :: s2 :: s3 :: s4 :: s5 :: s6 :: s7 :: s8 :: s9 :: s10 :: s11 :: s12 :: s13 :: .dT kt :: ρ) := gt_at rfl rfl
theorem f14_gek (k : Option D → En → Res β) : cps (getDI 14 d) (s0 :: s1 :: s2 :: s3 :: s4 :: s5 :: s6 :: s7 :: s8 :: s9 :: s10 :: s11 :: s12 :: s13 :: .dK kk :: ρ) k = (getKR kk d).bind fun l => k l (s0 :: s1 :: s2 :: s3 :: s4 :: s5 :: s6 :: s7 :: s8 :: s9 :: s10 :: s11 :: s12 :: s13 :: .dK kk :: ρ) := gk_at rfl rfl
theorem f14_put (k : Unit → En → Res β) : cps (putDI 14 d e) (s0 :: s1 :: s2 :: s3 :: s4 :: s5 :: s6 :: s7 :: s8 :: s9 :: s10 :: s11 :: s12 :: s13 :: .dT kt :: ρ) k = (putTR kt d e).bind fun l => k () (s0 :: s1 :: s2 :: s3 :: s4 :: s5 :: s6 :: s7 :: s8 :: s9 :: s10 :: s11 :: s12 :: s13 :: .dT l :: ρ) := pt_at rfl rfl
theorem f14_puk (k : Unit → En → Res β) : cps (putDI 14 d e) (s0 :: s1 :: s2 :: s3 :: s4 :: s5 :: s6 :: s7 :: s8 :: s9 :: s10 :: s11 :: s12 :: s13 :: .dK kk :: ρ) k = (putKR kk d e).bind fun l => k () (s0 :: s1 :: s2 :: s3 :: s4 :: s5 :: s6 :: s7 :: s8 :: s9 :: s10 :: s11 :: s12 :: s13 :: .dK l :: ρ) := pk_at rfl rfl
theorem f14_sok (k : List D → En → Res β) : cps (eSortD 14) (s0 :: s1 :: s2 :: s3 :: s4 :: s5 :: s6 :: s7 :: s8 :: s9 :: s10 :: s11 :: s12 :: s13 :: .dK kk :: ρ) k = (sortKR kk).bind fun l => k l (s0 :: s1 :: s2 :: s3 :: s4 :: s5 :: s6 :: s7 :: s8 :: s9 :: s10 :: s11 :: s12 :: s13 :: .dK kk :: ρ) := so_at rfl
theorem f14_sot (k : List D → En → Res β) : cps (eSortT 14) (s0 :: s1 :: s2 :: s3 :: s4 :: s5 :: s6 :: s7 :: s8 :: s9 :: s10 :: s11 :: s12 :: s13 :: .dT kt :: ρ) k = (sortTR kt).bind fun l => k l (s0 :: s1 :: s2 :: s3 :: s4 :: s5 :: s6 :: s7 :: s8 :: s9 :: s10 :: s11 :: s12 :: s13 :: .dT kt :: ρ) := sot_at rfl
theorem f14_lid (k : List D → En → Res β) : cps (eListD 14) (s0 :: s1 :: s2 :: s3 :: s4 :: s5 :: s6 :: s7 :: s8 :: s9 :: s10 :: s11 :: s12 :: s13 :: .dT kt :: ρ) k = (listDT kt).bind fun l => k l (s0 :: s1 :: s2 :: s3 :: s4 :: s5 :: s6 :: s7 :: s8 :: s9 :: s10 :: s11 :: s12 :: s13 :: .dT kt :: ρ) := lid_at rfl
theorem f14_cal (f : List D → List D → Res (D × List D)) (k : D → En → Res β) : cps (callO 14 f es) (s0 :: s1 :: s2 :: s3 :: s4 :: s5 :: s6 :: s7 :: s8 :: s9 :: s10 :: s11 :: s12 :: s13 :: .own ds :: ρ) k = (nxR (f ds es)).bind fun l => k l.1 (s0 :: s1 :: s2 :: s3 :: s4 :: s5 :: s6 :: s7 :: s8 :: s9 :: s10 :: s11 :: s12 :: s13 :: .own l.2 :: ρ) := ca_at rfl rfl
theorem f14_fz (k : Fl → En → Res β) : cps (sPre (14 :: fz) wp g) (s0 :: s1 :: s2 :: s3 :: s4 :: s5 :: s6 :: s7 :: s8 :: s9 :: s10 :: s11 :: s12 :: s13 :: .own ds :: ρ) k = cps (sPre fz wp g) (s0 :: s1 :: s2 :: s3 :: s4 :: s5 :: s6 :: s7 :: s8 :: s9 :: s10 :: s11 :: s12 :: s13 :: .val (.list ds) :: ρ) k := id rfl
theorem f14_wp (k : Fl → En → Res β) : cps (sPre [] (14 :: wp) g) (s0 :: s1 :: s2 :: s3 :: s4 :: s5 :: s6 :: s7 :: s8 :: s9 :: s10 :: s11 :: s12 :: s13 :: s14 :: ρ) k = cps (sPre [] wp g) (s0 :: s1 :: s2 :: s3 :: s4 :: s5 :: s6 :: s7 :: s8 :: s9 :: s10 :: s11 :: s12 :: s13 :: .emp :: ρ) k := id rfl
theorem f15_nmv (k : M D → En → Res β) : cps (eNm 15) (s0 :: s1 :: s2 :: s3 :: s4 :: s5 :: s6 :: s7 :: s8 :: s9 :: s10 :: s11 :: s12 :: s13 :: s14 :: .val d :: ρ) k = k (eAt 15) (s0 :: s1 :: s2 :: s3 :: s4 :: s5 :: s6 :: s7 :: s8 :: s9 :: s10 :: s11 :: s12 :: s13 :: s14 :: .val d :: ρ) := id rfl
theorem f15_nmo (k : M D → En → Res β) : cps (eNm 15) (s0 :: s1 :: s2 :: s3 :: s4 :: s5 :: s6 :: s7 :: s8 :: s9 :: s10 :: s11 :: s12 :: s13 :: s14 :: .own ds :: ρ) k = k (eAt 15) (s0 :: s1 :: s2 :: s3 :: s4 :: s5 :: s6 :: s7 :: s8 :: s9 :: s10 :: s11 :: s12 :: s13 :: s14 :: .own ds :: ρ) := id rfl
theorem f15_atv (k : D → En → Res β) : cps (eAt 15) (s0 :: s1 :: s2 :: s3 :: s4 :: s5 :: s6 :: s7 :: s8 :: s9 :: s10 :: s11 :: s12 :: s13 :: s14 :: .val d :: ρ) k = k d (s0 :: s1 :: s2 :: s3 :: s4 :: s5 :: s6 :: s7 :: s8 :: s9 :: s10 :: s11 :: s12 :: s13 :: s14 :: .val d :: ρ) := id rfl
theorem f15_ato (k : D → En → Res β) : cps (eAt 15) (s0 :: s1 :: s2 :: s3 :: s4 :: s5 :: s6 :: s7 :: s8 :: s9 :: s10 :: s11 :: s12 :: s13 :: s14 :: .own ds :: ρ) k = k (.list ds) (s0 :: s1 :: s2 :: s3 :: s4 :: s5 :: s6 :: s7 :: s8 :: s9 :: s10 :: s11 :: s12 :: s13 :: s14 :: .own ds :: ρ) := id rfl
theorem f15_vrv (k : D → En → Res β) : cps (eVar 15) (s0 :: s1 :: s2 :: s3 :: s4 :: s5 :: s6 :: s7 :: s8 :: s9 :: s10 :: s11 :: s12 :: s13 :: s14 :: .val d :: ρ) k = k d (s0 :: s1 :: s2 :: s3 :: s4 :: s5 :: s6 :: s7 :: s8 :: s9 :: s10 :: s11 :: s12 :: s13 :: s14 :: .val d :: ρ) := id rfl
theorem f15_vro (k : D → En → Res β) : cps (eVar 15) (s0 :: s1 :: s2 :: s3 :: s4 :: s5 :: s6 :: s7 :: s8 :: s9 :: s10 :: s11 :: s12 :: s13 :: s14 :: .own ds :: ρ) k = k (.list ds) (s0 :: s1 :: s2 :: s3 :: s4 :: s5 :: s6 :: s7 :: s8 :: s9 :: s10 :: s11 :: s12 :: s13 :: s14 :: .val (.list ds) :: ρ) := id rfl
theorem f15_iso (k : Unit → En → Res β) : cps (isO 15) (s0 :: s1 :: s2 :: s3 :: s4 :: s5 :: s6 :: s7 :: s8 :: s9 :: s10 :: s11 :: s12 :: s13 :: s14 :: .own ds :: ρ) k = k () (s0 :: s1 :: s2 :: s3 :: s4 :: s5 :: s6 :: s7 :: s8 :: s9 :: s10 :: s11 :: s12 :: s13 :: s14 :: .own ds :: ρ) := id rfl
theorem f15_isT (k : Unit → En → Res β) : cps (isDI 15) (s0 :: s1 :: s2 :: s3 :: s4 :: s5 :: s6 :: s7 :: s8 :: s9 :: s10 :: s11 :: s12 :: s13 :: s14 :: .dT kt :: ρ) k = k () (s0 :: s1 :: s2 :: s3 :: s4 :: s5 :: s6 :: s7 :: s8 :: s9 :: s10 :: s11 :: s12 :: s13 :: s14 :: .dT kt :: ρ) := id rfl
theorem f15_isK (k : Unit → En → Res β) : cps (isDI 15) (s0 :: s1 :: s2 :: s3 :: s4 :: s5 :: s6 :: s7 :: s8 :: s9 :: s10 :: s11 :: s12 :: s13 :: s14 :: .dK kk :: ρ) k = k () (s0 :: s1 :: s2 :: s3 :: s4 :: s5 :: s6 :: s7 :: s8 :: s9 :: s10 :: s11 :: s12 :: s13 :: s14 :: .dK kk :: ρ) := id rfl
theorem f15_stV (k : Unit → En → Res β) : cps (setV 15 d) (s0 :: s1 :: s2 :: s3 :: s4 :: s5 :: s6 :: s7 :: s8 :: s9 :: s10 :: s11 :: s12 :: s13 :: s14 :: s15 :: ρ) k = k () (s0 :: s1 :: s2 :: s3 :: s4 :: s5 :: s6 :: s7 :: s8 :: s9 :: s10 :: s11 :: s12 :: s13 :: s14 :: .val d :: ρ) := st_at (a := .val d) rfl
theorem f15_stO (k : Unit → En → Res β) : cps (setO 15 ds) (s0 :: s1 :: s2 :: s3 :: s4 :: s5 :: s6 :: s7 :: s8 :: s9 :: s10 :: s11 :: s12 :: s13 :: s14 :: s15 :: ρ) k = k () (s0 :: s1 :: s2 :: s3 :: s4 :: s5 :: s6 :: s7 :: s8 :: s9 :: s10 :: s11 :: s12 :: s13 :: s14 :: .own ds :: ρ) := st_at (a := .own ds) rfl
theorem f15_stS (s : Sl) (k : Unit → En → Res β) : cps (setS 15 s) (s0 :: s1 :: s2 :: s3 :: s4 :: s5 :: s6 :: s7 :: s8 :: s9 :: s10 :: s11 :: s12 :: s13 :: s14 :: s15 :: ρ) k = k () (s0 :: s1 :: s2 :: s3 :: s4 :: s5 :: s6 :: s7 :: s8 :: s9 :: s10 :: s11 :: s12 :: s13 :: s14 :: s :: ρ) := st_at (a := s) rfl
theorem f15_app (k : Unit → En → Res β) : cps (appO 15 d) (s0 :: s1 :: s2 :: s3 :: s4 :: s5 :: s6 :: s7 :: s8 :: s9 :: s10 :: s11 :: s12 :: s13 :: s14 :: .own ds :: ρ) k = (appR ds d).bind fun l => k () (s0 :: s1 :: s2 :: s3 :: s4 :: s5 :: s6 :: s7 :: s8 :: s9 :: s10 :: s11 :: s12 :: s13 :: s14 :: .own l :: ρ) := ap_at rfl rfl
theorem f15_ext (k : Unit → En → Res β) : cps (extO 15 d) (s0 :: s1 :: s2 :: s3 :: s4 :: s5 :: s6 :: s7 :: s8 :: s9 :: s10 :: s11 :: s12 :: s13 :: s14 :: .own ds :: ρ) k = (extR ds d).bind fun l => k () (s0 :: s1 :: s2 :: s3 :: s4 :: s5 :: s6 :: s7 :: s8 :: s9 :: s10 :: s11 :: s12 :: s13 :: s14 :: .own l :: ρ) := ex_at rfl rfl
theorem f15_six (k : Unit → En → Res β) : cps (setIxO 15 d e) (s0 :: s1 :: s2 :: s3 :: s4 :: s5 :: s6 :: s7 :: s8 :: s9 :: s10 :: s11 :: s12 :: s13 :: s14 :: .own ds :: ρ) k = (setR ds d e).bind fun l => k () (s0 :: s1 :: s2 :: s3 :: s4 :: s5 :: s6 :: s7 :: s8 :: s9 :: s10 :: s11 :: s12 :: s13 :: s14 :: .own l :: ρ) := sx_at rfl rfl
theorem f15_pop (k : D → En → Res β) : cps (popO 15) (s0 :: s1 :: s2 :: s3 :: s4 :: s5 :: s6 :: s7 :: s8 :: s9 :: s10 :: s11 :: s12 :: s13 :: s14 :: .own ds :: ρ) k = (popR ds).bind fun l => k l.1 (s0 :: s1 :: s2 :: s3 :: s4 :: s5 :: s6 :: s7 :: s8 :: s9 :: s10 :: s11 :: s12 :: s13 :: s14 :: .own l.2 :: ρ) := po_at rfl rfl
theorem f15_poa (k : D → En → Res β) : cps (popAtO 15 d) (s0 :: s1 :: s2 :: s3 :: s4 :: s5 :: s6 :: s7 :: s8 :: s9 :: s10 :: s11 :: s12 :: s13 :: s14 :: .own ds :: ρ) k = (popAtR ds d).bind fun l => k l.1 (s0 :: s1 :: s2 :: s3 :: s4 :: s5 :: s6 :: s7 :: s8 :: s9 :: s10 :: s11 :: s12 :: s13 :: s14 :: .own l.2 :: ρ) := pa_at rfl rfl
theorem f15_get (k : Option D → En → Res β) : cps (getDI 15 d) (s0 :: s1 :: s2 :: s3 :: s4 :: s5 :: s6 :: s7 :: s8 :: s9 :: s10 :: s11 :: s12 :: s13 :: s14 :: .dT kt :: ρ) k = (getTR kt d).bind fun l => k l (s0 :: s1 :: s2 :: s3 :: s4 :: s5 :: s6 :: s7 :: s8 :: s9 :: s10 :: s11 :: s12 :: s13 :: s14 :: .dT kt :: ρ) := gt_at rfl rfl
theorem f15_gek (k : Option D → En → Res β) : cps (getDI 15 d) (s0 :: s1 :: s2 :: s3 :: s4 :: s5 :: s6 :: s7 :: s8 :: s9 :: s10 :: s11 :: s12 :: s13 :: s14 :: .dK kk :: ρ) k = (getKR kk d).bind fun l => k l (s0 :: s1 :: s2 :: s3 :: s4 :: s5 :: s6 :: s7 :: s8 :: s9 :: s10 :: s11 :: s12 :: s13 :: s14 :: .dK kk :: ρ) := gk_at rfl rfl
theorem f15_put (k : Unit → En → Res β) : cps (putDI 15 d e) (s0 :: s1 :: s2 :: s3 :: s4 :: s5 :: s6 :: s7 :: s8 :: s9 :: s10 :: s11 :: s12 :: s13 :: s14 :: .dT kt :: ρ) k = (putTR kt d e).bind fun l => k () (s0 :: s1 :: s2 :: s3 :: s4 :: s5 :: s6 :: s7 :: s8 :: s9 :: s10 :: s11 :: s12 :: s13 :: s14 :: .dT l :: ρ) := pt_at rfl rfl
theorem f15_puk (k : Unit → En → Res β) : cps (putDI 15 d e) (s0 :: s1 :: s2 :: s3 :: s4 :: s5 :: s6 :: s7 :: s8 :: s9 :: s10 :: s11 :: s12 :: s13 :: s14 :: .dK kk :: ρ) k = (putKR kk d e).bind fun l => k () (s0 :: s1 :: s2 :: s3 :: s4 :: s5 :: s6 :: s7 :: s8 :: s9 :: s10 :: s11 :: s12 :: s13 :: s14 :: .dK l :: ρ) := pk_at rfl rfl
theorem f15_sok (k : List D → En → Res β) : cps (eSortD 15) (s0 :: s1 :: s2 :: s3 :: s4 :: s5 :: s6 :: s7 :: s8 :: s9 :: s10 :: s11 :: s12 :: s13 :: s14 :: .dK kk :: ρ) k = (sortKR kk).bind fun l => k l (s0 :: s1 :: s2 :: s3 :: s4 :: s5 :: s6 :: s7 :: s8 :: s9 :: s10 :: s11 :: s12 :: s13 :: s14 :: .dK kk :: ρ) := so_at rfl
theorem f15_sot (k : List D → En → Res β) : cps (eSortT 15) (s0 :: s1 :: s2 :: s3 :: s4 :: s5 :: s6 :: s7 :: s8 :: s9 :: s10 :: s11 :: s12 :: s13 :: s14 :: .dT kt :: ρ) k = (sortTR kt).bind fun l => k l (s0 :: s1 :: s2 :: s3 :: s4 :: s5 :: s6 :: s7 :: s8 :: s9 :: s10 :: s11 :: s12 :: s13 :: s14 :: .dT kt :: ρ) := sot_at rfl
theorem f15_lid (k : List D → En → Res β) : cps (eListD 15) (s0 :: s1 :: s2 :: s3 :: s4 :: s5 :: s6 :: s7 :: s8 :: s9 :: s10 :: s11 :: s12 :: s13 :: s14 :: .dT kt :: ρ) k = (listDT kt).bind fun l => k l (s0 :: s1 :: s2 :: s3 :: s4 :: s5 :: s6 :: s7 :: s8 :: s9 :: s10 :: s11 :: s12 :: s13 :: s14 :: .dT kt :: ρ) := lid_at rfl
theorem f15_cal (f : List D → List D → Res (D × List D)) (k : D → En → Res β) : cps (callO 15 f es) (s0 :: s1 :: s2 :: s3 :: s4 :: s5 :: s6 :: s7 :: s8 :: s9 :: s10 :: s11 :: s12 :: s13 :: s14 :: .own ds :: ρ) k = (nxR (f ds es)).bind fun l => k l.1 (s0 :: s1 :: s2 :: s3 :: s4 :: s5 :: s6 :: s7 :: s8 :: s9 :: s10 :: s11 :: s12 :: s13 :: s14 :: .own l.2 :: ρ) := ca_at rfl rfl
theorem f15_fz (k : Fl → En → Res β) : cps (sPre (15 :: fz) wp g) (s0 :: s1 :: s2 :: s3 :: s4 :: s5 :: s6 :: s7 :: s8 :: s9 :: s10 :: s11 :: s12 :: s13 :: s14 :: .own ds :: ρ) k = cps (sPre fz wp g) (s0 :: s1 :: s2 :: s3 :: s4 :: s5 :: s6 :: s7 :: s8 :: s9 :: s10 :: s11 :: s12 :: s13 :: s14 :: .val (.list ds) :: ρ) k := id rfl
theorem f15_wp (k : Fl → En → Res β) : cps (sPre [] (15 :: wp) g) (s0 :: s1 :: s2 :: s3 :: s4 :: s5 :: s6 :: s7 :: s8 :: s9 :: s10 :: s11 :: s12 :: s13 :: s14 :: s15 :: ρ) k = cps (sPre [] wp g) (s0 :: s1 :: s2 :: s3 :: s4 :: s5 :: s6 :: s7 :: s8 :: s9 :: s10 :: s11 :: s12 :: s13 :: s14 :: .emp :: ρ) k := id rfl
theorem f16_nmv (k : M D → En → Res β) : cps (eNm 16) (s0 :: s1 :: s2 :: s3 :: s4 :: s5 :: s6 :: s7 :: s8 :: s9 :: s10 :: s11 :: s12 :: s13 :: s14 :: s15 :: .val d :: ρ) k = k (eAt 16) (s0 :: s1 :: s2 :: s3 :: s4 :: s5 :: s6 :: s7 :: s8 :: s9 :: s10 :: s11 :: s12 :: s13 :: s14 :: s15 :: .val d :: ρ) := id rfl
theorem f16_nmo (k : M D → En → Res β) : cps (eNm 16) (s0 :: s1 :: s2 :: s3 :: s4 :: s5 :: s6 :: s7 :: s8 :: s9 :: s10 :: s11 :: s12 :: s13 :: s14 :: s15 :: .own ds :: ρ) k = k (eAt 16) (s0 :: s1 :: s2 :: s3 :: s4 :: s5 :: s6 :: s7 :: s8 :: s9 :: s10 :: s11 :: s12 :: s13 :: s14 :: s15 :: .own ds :: ρ) := id rfl
theorem f16_atv (k : D → En → Res β) : cps (eAt 16) (s0 :: s1 :: s2 :: s3 :: s4 :: s5 :: s6 :: s7 :: s8 :: s9 :: s10 :: s11 :: s12 :: s13 :: s14 :: s15 :: .val d :: ρ) k = k d (s0 :: s1 :: s2 :: s3 :: s4 :: s5 :: s6 :: s7 :: s8 :: s9 :: s10 :: s11 :: s12 :: s13 :: s14 :: s15 :: .val d :: ρ) := id rfl
theorem f16_ato (k : D → En → Res β) : cps (eAt 16) (s0 :: s1 :: s2 :: s3 :: s4 :: s5 :: s6 :: s7 :: s8 :: s9 :: s10 :: s11 :: s12 :: s13 :: s14 :: s15 :: .own ds :: ρ) k = k (.list ds) (s0 :: s1 :: s2 :: s3 :: s4 :: s5 :: s6 :: s7 :: s8 :: s9 :: s10 :: s11 :: s12 :: s13 :: s14 :: s15 :: .own ds :: ρ) := id rfl
theorem f16_vrv (k : D → En → Res β) : cps (eVar 16) (s0 :: s1 :: s2 :: s3 :: s4 :: s5 :: s6 :: s7 :: s8 :: s9 :: s10 :: s11 :: s12 :: s13 :: s14 :: s15 :: .val d :: ρ) k = k d (s0 :: s1 :: s2 :: s3 :: s4 :: s5 :: s6 :: s7 :: s8 :: s9 :: s10 :: s11 :: s12 :: s13 :: s14 :: s15 :: .val d :: ρ) := id rfl
theorem f16_vro (k : D → En → Res β) : cps (eVar 16) (s0 :: s1 :: s2 :: s3 :: s4 :: s5 :: s6 :: s7 :: s8 :: s9 :: s10 :: s11 :: s12 :: s13 :: s14 :: s15 :: .own ds :: ρ) k = k (.list ds) (s0 :: s1 :: s2 :: s3 :: s4 :: s5 :: s6 :: s7 :: s8 :: s9 :: s10 :: s11 :: s12 :: s13 :: s14 :: s15 :: .val (.list ds) :: ρ) := id rfl
theorem f16_iso (k : Unit → En → Res β) : cps (isO 16) (s0 :: s1 :: s2 :: s3 :: s4 :: s5 :: s6 :: s7 :: s8 :: s9 :: s10 :: s11 :: s12 :: s13 :: s14 :: s15 :: .own ds :: ρ) k = k () (s0 :: s1 :: s2 :: s3 :: s4 :: s5 :: s6 :: s7 :: s8 :: s9 :: s10 :: s11 :: s12 :: s13 :: s14 :: s15 :: .own ds :: ρ) := id rfl
theorem f16_isT (k : Unit → En → Res β) : cps (isDI 16) (s0 :: s1 :: s2 :: s3 :: s4 :: s5 :: s6 :: s7 :: s8 :: s9 :: s10 :: s11 :: s12 :: s13 :: s14 :: s15 :: .dT kt :: ρ) k = k () (s0 :: s1 :: s2 :: s3 :: s4 :: s5 :: s6 :: s7 :: s8 :: s9 :: s10 :: s11 :: s12 :: s13 :: s14 :: s15 :: .dT kt :: ρ) := id rfl
theorem f16_isK (k : Unit → En → Res β) : cps (isDI 16) (s0 :: s1 :: s2 :: s3 :: s4 :: s5 :: s6 :: s7 :: s8 :: s9 :: s10 :: s11 :: s12 :: s13 :: s14 :: s15 :: .dK kk :: ρ) k = k () (s0 :: s1 :: s2 :: s3 :: s4 :: s5 :: s6 :: s7 :: s8 :: s9 :: s10 :: s11 :: s12 :: s13 :: s14 :: s15 :: .dK kk :: ρ) := id rfl
theorem f16_stV (k : Unit → En → Res β) : cps (setV 16 d) (s0 :: s1 :: s2 :: s3 :: s4 :: s5 :: s6 :: s7 :: s8 :: s9 :: s10 :: s11 :: s12 :: s13 :: s14 :: s15 :: s16 :: ρ) k = k () (s0 :: s1 :: s2 :: s3 :: s4 :: s5 :: s6 :: s7 :: s8 :: s9 :: s10 :: s11 :: s12 :: s13 :: s14 :: s15 :: .val d :: ρ) := st_at (a := .val d) rfl
theorem f16_stO (k : Unit → En → Res β) : cps (setO 16 ds) (s0 :: s1 :: s2 :: s3 :: s4 :: s5 :: s6 :: s7 :: s8 :: s9 :: s10 :: s11 :: s12 :: s13 :: s14 :: s15 :: s16 :: ρ) k = k () (s0 :: s1 :: s2 :: s3 :: s4 :: s5 :: s6 :: s7 :: s8 :: s9 :: s10 :: s11 :: s12 :: s13 :: s14 :: s15 :: .own ds :: ρ) := st_at (a := .own ds) rfl
theorem f16_stS (s : Sl) (k : Unit → En → Res β) : cps (setS 16 s) (s0 :: s1 :: s2 :: s3 :: s4 :: s5 :: s6 :: s7 :: s8 :: s9 :: s10 :: s11 :: s12 :: s13 :: s14 :: s15 :: s16 :: ρ) k = k () (s0 :: s1 :: s2 :: s3 :: s4 :: s5 :: s6 :: s7 :: s8 :: s9 :: s10 :: s11 :: s12 :: s13 :: s14 :: s15 :: s :: ρ) := st_at (a := s) rfl
theorem f16_app (k : Unit → En → Res β) : cps (appO 16 d) (s0 :: s1 :: s2 :: s3 :: s4 :: s5 :: s6 :: s7 :: s8 :: s9 :: s10 :: s11 :: s12 :: s13 :: s14 :: s15 :: .own ds :: ρ) k = (appR ds d).bind fun l => k () (s0 :: s1 :: s2 :: s3 :: s4 :: s5 :: s6 :: s7 :: s8 :: s9 :: s10 :: s11 :: s12 :: s13 :: s14 :: s15 :: .own l :: ρ) := ap_at rfl rfl
theorem f16_ext (k : Unit → En → Res β) : cps (extO 16 d) (s0 :: s1 :: s2 :: s3 :: s4 :: s5 :: s6 :: s7 :: s8 :: s9 :: s10 :: s11 :: s12 :: s13 :: s14 :: s15 :: .own ds :: ρ) k = (extR ds d).bind fun l => k () (s0 :: s1 :: s2 :: s3 :: s4 :: s5 :: s6 :: s7 :: s8 :: s9 :: s10 :: s11 :: s12 :: s13 :: s14 :: s15 :: .own l :: ρ) := ex_at rfl rfl
theorem f16_six (k : Unit → En → Res β) : cps (setIxO 16 d e) (s0 :: s1 :: s2 :: s3 :: s4 :: s5 :: s6 :: s7 :: s8 :: s9 :: s10 :: s11 :: s12 :: s13 :: s14 :: s15 :: .own ds :: ρ) k = (setR ds d e).bind fun l => k () (s0 :: s1 :: s2 :: s3 :: s4 :: s5 :: s6 :: s7 :: s8 :: s9 :: s10 :: s11 :: s12 :: s13 :: s14 :: s15 :: .own l :: ρ) := sx_at rfl rfl
theorem f16_pop (k : D → En → Res β) : cps (popO 16) (s0 :: s1 :: s2 :: s3 :: s4 :: s5 :: s6 :: s7 :: s8 :: s9 :: s10 :: s11 :: s12 :: s13 :: s14 :: s15 :: .own ds :: ρ) k = (popR ds).bind fun l => k l.1 (s0 :: s1 :: s2 :: s3 :: s4 :: s5 :: s6 :: s7 :: s8 :: s9 :: s10 :: s11 :: s12 :: s13 :: s14 :: s15 :: .own l.2 :: ρ) := po_at rfl rfl
theorem f16_poa (k : D → En → Res β) : cps (popAtO 16 d) (s0 :: s1 :: s2 :: s3 :: s4 :: s5 :: s6 :: s7 :: s8 :: s9 :: s10 :: s11 :: s12 :: s13 :: s14 :: s15 :: .own ds :: ρ) k = (popAtR ds d).bind fun l => k l.1 (s0 :: s1 :: s2 :: s3 :: s4 :: s5 :: s6 :: s7 :: s8 :: s9 :: s10 :: s11 :: s12 :: s13 :: s14 :: s15 :: .own l.2 :: ρ) := pa_at rfl rfl
theorem f16_get (k : Option D → En → Res β) : cps (getDI 16 d) (s0 :: s1 :: s2 :: s3 :: s4 :: s5 :: s6 :: s7 :: s8 :: s9 :: s10 :: s11 :: s12 :: s13 :: s14 :: s15 :: .dT kt :: ρ) k = (getTR kt d).bind fun l => k l (s0 :: s1 :: s2 :: s3 :: s4 :: s5 :: s6 :: s7 :: s8 :: s9 :: s10 :: s11 :: s12 :: s13 :: s14 :: s15 :: .dT kt :: ρ) := gt_at rfl rfl
theorem f16_gek (k : Option D → En → Res β) : cps (getDI 16 d) (s0 :: s1 :: s2 :: s3 :: s4 :: s5 :: s6 :: s7 :: s8 :: s9 :: s10 :: s11 :: s12 :: s13 :: s14 :: s15 :: .dK kk :: ρ) k = (getKR kk d).bind fun l => k l (s0 :: s1 :: s2 :: s3 :: s4 :: s5 :: s6 :: s7 :: s8 :: s9 :: s10 :: s11 :: s12 :: s13 :: s14 :: s15 :: .dK kk :: ρ) := gk_at rfl rfl
theorem f16_put (k : Unit → En → Res β) : cps (putDI 16 d e) (s0 :: s1 :: s2 :: s3 :: s4 :: s5 :: s6 :: s7 :: s8 :: s9 :: s10 :: s11 :: s12 :: s13 :: s14 :: s15 :: .dT kt :: ρ) k = (putTR kt d e).bind fun l => k () (s0 :: s1 :: s2 :: s3 :: s4 :: s5 :: s6 :: s7 :: s8 :: s9 :: s10 :: s11 :: s12 :: s13 :: s14 :: s15 :: .dT l :: ρ) := pt_at rfl rfl
theorem f16_puk (k : Unit → En → Res β) : cps (putDI 16 d e) (s0 :: s1 :: s2 :: s3 :: s4 :: s5 :: s6 :: s7 :: s8 :: s9 :: s10 :: s11 :: s12 :: s13 :: s14 :: s15 :: .dK kk :: ρ) k = (putKR kk d e).bind fun l => k () (s0 :: s1 :: s2 :: s3 :: s4 :: s5 :: s6 :: s7 :: s8 :: s9 :: s10 :: s11 :: s12 :: s13 :: s14 :: s15 :: .dK l :: ρ) := pk_at rfl rfl
theorem f16_sok (k : List D → En → Res β) : cps (eSortD 16) (s0 :: s1 :: s2 :: s3 :: s4 :: s5 :: s6 :: s7 :: s8 :: s9 :: s10 :: s11 :: s12 :: s13 :: s14 :: s15 :: .dK kk :: ρ) k = (sortKR kk).bind fun l => k l (s0 :: s1 :: s2 :: s3 :: s4 :: s5 :: s6 :: s7 :: s8 :: s9 :: s10 :: s11 :: s12 :: s13 :: s14 :: s15 :: .dK kk :: ρ) := so_at rfl
theorem f16_sot (k : List D → En → Res β) : cps (eSortT 16) (s0 :: s1 :: s2 :: s3 :: s4 :: s5 :: s6 :: s7 :: s8 :: s9 :: s10 :: s11 :: s12 :: s13 :: s14 :: s15 :: .dT kt :: ρ) k = (sortTR kt).bind fun l => k l (s0 :: s1 :: s2 :: s3 :: s4 :: s5 :: s6 :: s7 :: s8 :: s9 :: s10 :: s11 :: s12 :: s13 :: s14 :: s15 :: .dT kt :: ρ) := sot_at rfl
theorem f16_lid (k : List D → En → Res β) : cps (eListD 16) (s0 :: s1 :: s2 :: s3 :: s4 :: s5 :: s6 :: s7 :: s8 :: s9 :: s10 :: s11 :: s12 :: s13 :: s14 :: s15 :: .dT kt :: ρ) k = (listDT kt).bind fun l => k l (s0 :: s1 :: s2 :: s3 :: s4 :: s5 :: s6 :: s7 :: s8 :: s9 :: s10 :: s11 :: s12 :: s13 :: s14 :: s15 :: .dT kt :: ρ) := lid_at rfl
theorem f16_cal (f : List D → List D → Res (D × List D)) (k : D → En → Res β) : cps (callO 16 f es) (s0 :: s1 :: s2 :: s3 :: s4 :: s5 :: s6 :: s7 :: s8 :: s9 :: s10 :: s11 :: s12 :: s13 :: s14 :: s15 :: .own ds :: ρ) k = (nxR (f ds es)).bind fun l => k l.1 (s0 :: s1 :: s2 :: s3 :: s4 :: s5 :: s6 :: s7 :: s8 :: s9 :: s10 :: s11 :: s12 :: s13 :: s14 :: s15 :: .own l.2 :: ρ) := ca_at rfl rfl
theorem f16_fz (k : Fl → En → Res β) : cps (sPre (16 :: fz) wp g) (s0 :: s1 :: s2 :: s3 :: s4 :: s5 :: s6 :: s7 :: s8 :: s9 :: s10 :: s11 :: s12 :: s13 :: s14 :: s15 :: .own ds :: ρ) k = cps (sPre fz wp g) (s0 :: s1 :: s2 :: s3 :: s4 :: s5 :: s6 :: s7 :: s8 :: s9 :: s10 :: s11 :: s12 :: s13 :: s14 :: s15 :: .val (.list ds) :: ρ) k := id rfl
theorem f16_wp (k : Fl → En → Res β) : cps (sPre [] (16 :: wp) g) (s0 :: s1 :: s2 :: s3 :: s4 :: s5 :: s6 :: s7 :: s8 :: s9 :: s10 :: s11 :: s12 :: s13 :: s14 :: s15 :: s16 :: ρ) k = cps (sPre [] wp g) (s0 :: s1 :: s2 :: s3 :: s4 :: s5 :: s6 :: s7 :: s8 :: s9 :: s10 :: s11 :: s12 :: s13 :: s14 :: s15 :: .emp :: ρ) k := id rfl
theorem f17_nmv (k : M D → En → Res β) : cps (eNm 17) (s0 :: s1 :: s2 :: s3 :: s4 :: s5 :: s6 :: s7 :: s8 :: s9 :: s10 :: s11 :: s12 :: s13 :: s14 :: s15 :: s16 :: .val d :: ρ) k = k (eAt 17) (s0 :: s1 :: s2 :: s3 :: s4 :: s5 :: s6 :: s7 :: s8 :: s9 :: s10 :: s11 :: s12 :: s13 :: s14 :: s15 :: s16 :: .val d :: ρ) := id rfl
theorem f17_nmo (k : M D → En → Res β) : cps (eNm 17) (s0 :: s1 :: s2 :: s3 :: s4 :: s5 :: s6 :: s7 :: s8 :: s9 :: s10 :: s11 :: s12 :: s13 :: s14 :: s15 :: s16 :: .own ds :: ρ) k = k (eAt 17) (s0 :: s1 :: s2 :: s3 :: s4 :: s5 :: s6 :: s7 :: s8 :: s9 :: s10 :: s11 :: s12 :: s13 :: s14 :: s15 :: s16 :: .own ds :: ρ) := id rfl
theorem f17_atv (k : D → En → Res β) : cps (eAt 17) (s0 :: s1 :: s2 :: s3 :: s4 :: s5 :: s6 :: s7 :: s8 :: s9 :: s10 :: s11 :: s12 :: s13 :: s14 :: s15 :: s16 :: .val d :: ρ) k = k d (s0 :: s1 :: s2 :: s3 :: s4 :: s5 :: s6 :: s7 :: s8 :: s9 :: s10 :: s11 :: s12 :: s13 :: s14 :: s15 :: s16 :: .val d :: ρ) := id rfl
theorem f17_ato (k : D → En → Res β) : cps (eAt 17) (s0 :: s1 :: s2 :: s3 :: s4 :: s5 :: s6 :: s7 :: s8 :: s9 :: s10 :: s11 :: s12 :: s13 :: s14 :: s15 :: s16 :: .own ds :: ρ) k = k (.list ds) (s0 :: s1 :: s2 :: s3 :: s4 :: s5 :: s6 :: s7 :: s8 :: s9 :: s10 :: s11 :: s12 :: s13 :: s14 :: s15 :: s16 :: .own ds :: ρ) := id rfl
theorem f17_vrv (k : D → En → Res β) : cps (eVar 17) (s0 :: s1 :: s2 :: s3 :: s4 :: s5 :: s6 :: s7 :: s8 :: s9 :: s10 :: s11 :: s12 :: s13 :: s14 :: s15 :: s16 :: .val d :: ρ) k = k d (s0 :: s1 :: s2 :: s3 :: s4 :: s5 :: s6 :: s7 :: s8 :: s9 :: s10 :: s11 :: s12 :: s13 :: s14 :: s15 :: s16 :: .val d :: ρ) := id rfl
theorem f17_vro (k : D → En → Res β) : cps (eVar 17) (s0 :: s1 :: s2 :: s3 :: s4 :: s5 :: s6 :: s7 :: s8 :: s9 :: s10 :: s11 :: s12 :: s13 :: s14 :: s15 :: s16 :: .own ds :: ρ) k = k (.list ds) (s0 :: s1 :: s2 :: s3 :: s4 :: s5 :: s6 :: s7 :: s8 :: s9 :: s10 :: s11 :: s12 :: s13 :: s14 :: s15 :: s16 :: .val (.list ds) :: ρ) := id rfl
theorem f17_iso (k : Unit → En → Res β) : cps (isO 17) (s0 :: s1 :: s2 :: s3 :: s4 :: s5 :: s6 :: s7 :: s8 :: s9 :: s10 :: s11 :: s12 :: s13 :: s14 :: s15 :: s16 :: .own ds :: ρ) k = k () (s0 :: s1 :: s2 :: s3 :: s4 :: s5 :: s6 :: s7 :: s8 :: s9 :: s10 :: s11 :: s12 :: s13 :: s14 :: s15 :: s16 :: .own ds :: ρ) := id rfl
theorem f17_isT (k : Unit → En → Res β) : cps (isDI 17) (s0 :: s1 :: s2 :: s3 :: s4 :: s5 :: s6 :: s7 :: s8 :: s9 :: s10 :: s11 :: s12 :: s13 :: s14 :: s15 :: s16 :: .dT kt :: ρ) k = k () (s0 :: s1 :: s2 :: s3 :: s4 :: s5 :: s6 :: s7 :: s8 :: s9 :: s10 :: s11 :: s12 :: s13 :: s14 :: s15 :: s16 :: .dT kt :: ρ) := id rfl
theorem f17_isK (k : Unit → En → Res β) : cps (isDI 17) (s0 :: s1 :: s2 :: s3 :: s4 :: s5 :: s6 :: s7 :: s8 :: s9 :: s10 :: s11 :: s12 :: s13 :: s14 :: s15 :: s16 :: .dK kk :: ρ) k = k () (s0 :: s1 :: s2 :: s3 :: s4 :: s5 :: s6 :: s7 :: s8 :: s9 :: s10 :: s11 :: s12 :: s13 :: s14 :: s15 :: s16 :: .dK kk :: ρ) := id rfl
theorem f17_stV (k : Unit → En → Res β) : cps (setV 17 d) (s0 :: s1 :: s2 :: s3 :: s4 :: s5 :: s6 :: s7 :: s8 :: s9 :: s10 :: s11 :: s12 :: s13 :: s14 :: s15 :: s16 :: s17 :: ρ) k = k () (s0 :: s1 :: s2 :: s3 :: s4 :: s5 :: s6 :: s7 :: s8 :: s9 :: s10 :: s11 :: s12 :: s13 :: s14 :: s15 :: s16 :: .val d :: ρ) := st_at (a := .val d) rfl
theorem f17_stO (k : Unit → En → Res β) : cps (setO 17 ds) (s0 :: s1 :: s2 :: s3 :: s4 :: s5 :: s6 :: s7 :: s8 :: s9 :: s10 :: s11 :: s12 :: s13 :: s14 :: s15 :: s16 :: s17 :: ρ) k = k () (s0 :: s1 :: s2 :: s3 :: s4 :: s5 :: s6 :: s7 :: s8 :: s9 :: s10 :: s11 :: s12 :: s13 :: s14 :: s15 :: s16 :: .own ds :: ρ) := st_at (a := .own ds) rfl
theorem f17_stS (s : Sl) (k : Unit → En → Res β) : cps (setS 17 s) (s0 :: s1 :: s2 :: s3 :: s4 :: s5 :: s6 :: s7 :: s8 :: s9 :: s10 :: s11 :: s12 :: s13 :: s14 :: s15 :: s16 :: s17 :: ρ) k = k () (s0 :: s1 :: s2 :: s3 :: s4 :: s5 :: s6 :: s7 :: s8 :: s9 :: s10 :: s11 :: s12 :: s13 :: s14 :: s15 :: s16 :: s :: ρ) := st_at (a := s) rfl
theorem f17_app (k : Unit → En → Res β) : cps (appO 17 d) (s0 :: s1 :: s2 :: s3 :: s4 :: s5 :: s6 :: s7 :: s8 :: s9 :: s10 :: s11 :: s12 :: s13 :: s14 :: s15 :: s16 :: .own ds :: ρ) k = (appR ds d).bind fun l => k () (s0 :: s1 :: s2 :: s3 :: s4 :: s5 :: s6 :: s7 :: s8 :: s9 :: s10 :: s11 :: s12 :: s13 :: s14 :: s15 :: s16 :: .own l :: ρ) := ap_at rfl rfl
theorem f17_ext (k : Unit → En → Res β) : cps (extO 17 d) (s0 :: s1 :: s2 :: s3 :: s4 :: s5 :: s6 :: s7 :: s8 :: s9 :: s10 :: s11 :: s12 :: s13 :: s14 :: s15 :: s16 :: .own ds :: ρ) k = (extR ds d).bind fun l => k () (s0 :: s1 :: s2 :: s3 :: s4 :: s5 :: s6 :: s7 :: s8 :: s9 :: s10 :: s11 :: s12 :: s13 :: s14 :: s15 :: s16 :: .own l :: ρ) := ex_at rfl rfl
theorem f17_six (k : Unit → En → Res β) : cps (setIxO 17 d e) (s0 :: s1 :: s2 :: s3 :: s4 :: s5 :: s6 :: s7 :: s8 :: s9 :: s10 :: s11 :: s12 :: s13 :: s14 :: s15 :: s16 :: .own ds :: ρ) k = (setR ds d e).bind fun l => k () (s0 :: s1 :: s2 :: s3 :: s4 :: s5 :: s6 :: s7 :: s8 :: s9 :: s10 :: s11 :: s12 :: s13 :: s14 :: s15 :: s16 :: .own l :: ρ) := sx_at rfl rfl
theorem f17_pop (k : D → En → Res β) : cps (popO 17) (s0 :: s1 :: s2 :: s3 :: s4 :: s5 :: s6 :: s7 :: s8 :: s9 :: s10 :: s11 :: s12 :: s13 :: s14 :: s15 :: s16 :: .own ds :: ρ) k = (popR ds).bind fun l => k l.1 (s0 :: s1 :: s2 :: s3 :: s4 :: s5 :: s6 :: s7 :: s8 :: s9 :: s10 :: s11 :: s12 :: s13 :: s14 :: s15 :: s16 :: .own l.2 :: ρ) := po_at rfl rfl
theorem f17_poa (k : D → En → Res β) : cps (popAtO 17 d) (s0 :: s1 :: s2 :: s3 :: s4 :: s5 :: s6 :: s7 :: s8 :: s9 :: s10 :: s11 :: s12 :: s13 :: s14 :: s15 :: s16 :: .own ds :: ρ) k = (popAtR ds d).bind fun l => k l.1 (s0 :: s1 :: s2 :: s3 :: s4 :: s5 :: s6 :: s7 :: s8 :: s9 :: s10 :: s11 :: s12 :: s13 :: s14 :: s15 :: s16 :: .own l.2 :: ρ) := pa_at rfl rfl
theorem f17_get (k : Option D → En → Res β) : cps (getDI 17 d) (s0 :: s1 :: s2 :: s3 :: s4 :: s5 :: s6 :: s7 :: s8 :: s9 :: s10 :: s11 :: s12 :: s13 :: s14 :: s15 :: s16 :: .dT kt :: ρ) k = (getTR kt d).bind fun l => k l (s0 :: s1 :: s2 :: s3 :: s4 :: s5 :: s6 :: s7 :: s8 :: s9 :: s10 :: s11 :: s12 :: s13 :: s14 :: s15 :: s16 :: .dT kt :: ρ) := gt_at rfl rfl
theorem f17_gek (k : Option D → En → Res β) : cps (getDI 17 d) (s0 :: s1 :: s2 :: s3 :: s4 :: s5 :: s6 :: s7 :: s8 :: s9 :: s10 :: s11 :: s12 :: s13 :: s14 :: s15 :: s16 :: .dK kk :: ρ) k = (getKR kk d).bind fun l => k l (s0 :: s1 :: s2 :: s3 :: s4 :: s5 :: s6 :: s7 :: s8 :: s9 :: s10 :: s11 :: s12 :: s13 :: s14 :: s15 :: s16 :: .dK kk :: ρ) := gk_at rfl rfl
theorem f17_put (k : Unit → En → Res β) : cps (putDI 17 d e) (s0 :: s1 :: s2 :: s3 :: s4 :: s5 :: s6 :: s7 :: s8 :: s9 :: s10 :: s11 :: s12 :: s13 :: s14 :: s15 :: s16 :: .dT kt :: ρ) k = (putTR kt d e).bind fun l => k () (s0 :: s1 :: s2 :: s3 :: s4 :: s5 :: s6 :: s7 :: s8 :: s9 :: s10 :: s11 :: s12 :: s13 :: s14 :: s15 :: s16 :: .dT l :: ρ) := pt_at rfl rfl
theorem f17_puk (k : Unit → En → Res β) : cps (putDI 17 d e) (s0 :: s1 :: s2 :: s3 :: s4 :: s5 :: s6 :: s7 :: s8 :: s9 :: s10 :: s11 :: s12 :: s13 :: s14 :: s15 :: s16 :: .dK kk :: ρ) k = (putKR kk d e).bind fun l => k () (s0 :: s1 :: s2 :: s3 :: s4 :: s5 :: s6 :: s7 :: s8 :: s9 :: s10 :: s11 :: s12 :: s13 :: s14 :: s15 :: s16 :: .dK l :: ρ) := pk_at rfl rfl
theorem f17_sok (k : List D → En → Res β) : cps (eSortD 17) (s0 :: s1 :: s2 :: s3 :: s4 :: s5 :: s6 :: s7 :: s8 :: s9 :: s10 :: s11 :: s12 :: s13 :: s14 :: s15 :: s16 :: .dK kk :: ρ) k = (sortKR kk).bind fun l => k l (s0 :: s1 :: s2 :: s3 :: s4 :: s5 :: s6 :: s7 :: s8 :: s9 :: s10 :: s11 :: s12 :: s13 :: s14 :: s15 :: s16 :: .dK kk :: ρ) := so_at rfl
theorem f17_sot (k : List D → En → Res β) : cps (eSortT 17) (s0 :: s1 :: s2 :: s3 :: s4 :: s5 :: s6 :: s7 :: s8 :: s9 :: s10 :: s11 :: s12 :: s13 :: s14 :: s15 :: s16 :: .dT kt :: ρ) k = (sortTR kt).bind fun l => k l (s0 :: s1 :: s2 :: s3 :: s4 :: s5 :: s6 :: s7 :: s8 :: s9 :: s10 :: s11 :: s12 :: s13 :: s14 :: s15 :: s16 :: .dT kt :: ρ) := sot_at rfl
theorem f17_lid (k : List D → En → Res β) : cps (eListD 17) (s0 :: s1 :: s2 :: s3 :: s4 :: s5 :: s6 :: s7 :: s8 :: s9 :: s10 :: s11 :: s12 :: s13 :: s14 :: s15 :: s16 :: .dT kt :: ρ) k = (listDT kt).bind fun l => k l (s0 :: s1 :: s2 :: s3 :: s4 :: s5 :: s6 :: s7 :: s8 :: s9 :: s10 :: s11 :: s12 :: s13 :: s14 :: s15 :: s16 :: .dT kt :: ρ) := lid_at rfl
theorem f17_cal (f : List D → List D → Res (D × List D)) (k : D → En → Res β) : cps (callO 17 f es) (s0 :: s1 :: s2 :: s3 :: s4 :: s5 :: s6 :: s7 :: s8 :: s9 :: s10 :: s11 :: s12 :: s13 :: s14 :: s15 :: s16 :: .own ds :: ρ) k = (nxR (f ds es)).bind fun l => k l.1 (s0 :: s1 :: s2 :: s3 :: s4 :: s5 :: s6 :: s7 :: s8 :: s9 :: s10 :: s11 :: s12 :: s13 :: s14 :: s15 :: s16 :: .own l.2 :: ρ) := ca_at rfl rfl
theorem f17_fz (k : Fl → En → Res β) : cps (sPre (17 :: fz) wp g) (s0 :: s1 :: s2 :: s3 :: s4 :: s5 :: s6 :: s7 :: s8 :: s9 :: s10 :: s11 :: s12 :: s13 :: s14 :: s15 :: s16 :: .own ds :: ρ) k = cps (sPre fz wp g) (s0 :: s1 :: s2 :: s3 :: s4 :: s5 :: s6 :: s7 :: s8 :: s9 :: s10 :: s11 :: s12 :: s13 :: s14 :: s15 :: s16 :: .val (.list ds) :: ρ) k := id rfl
theorem f17_wp (k : Fl → En → Res β) : cps (sPre [] (17 :: wp) g) (s0 :: s1 :: s2 :: s3 :: s4 :: s5 :: s6 :: s7 :: s8 :: s9 :: s10 :: s11 :: s12 :: s13 :: s14 :: s15 :: s16 :: s17 :: ρ) k = cps (sPre [] wp g) (s0 :: s1 :: s2 :: s3 :: s4 :: s5 :: s6 :: s7 :: s8 :: s9 :: s10 :: s11 :: s12 :: s13 :: s14 :: s15 :: s16 :: .emp :: ρ) k := id rfl
theorem f18_nmv (k : M D → En → Res β) : cps (eNm 18) (s0 :: s1 :: s2 :: s3 :: s4 :: s5 :: s6 :: s7 :: s8 :: s9 :: s10 :: s11 :: s12 :: s13 :: s14 :: s15 :: s16 :: s17 :: .val d :: ρ) k = k (eAt 18) (s0 :: s1 :: s2 :: s3 :: s4 :: s5 :: s6 :: s7 :: s8 :: s9 :: s10 :: s11 :: s12 :: s13 :: s14 :: s15 :: s16 :: s17 :: .val d :: ρ) := id rfl
theorem f18_nmo (k : M D → En → Res β) : cps (eNm 18) (s0 :: s1 :: s2 :: s3 :: s4 :: s5 :: s6 :: s7 :: s8 :: s9 :: s10 :: s11 :: s12 :: s13 :: s14 :: s15 :: s16 :: s17 :: .own ds :: ρ) k = k (eAt 18) (s0 :: s1 :: s2 :: s3 :: s4 :: s5 :: s6 :: s7 :: s8 :: s9 :: s10 :: s11 :: s12 :: s13 :: s14 :: s15 :: s16 :: s17 :: .own ds :: ρ) := id rfl
theorem f18_atv (k : D → En → Res β) : cps (eAt 18) (s0 :: s1 :: s2 :: s3 :: s4 :: s5 :: s6 :: s7 :: s8 :: s9 :: s10 :: s11 :: s12 :: s13 :: s14 :: s15 :: s16 :: s17 :: .val d :: ρ) k = k d (s0 :: s1 :: s2 :: s3 :: s4 :: s5 :: s6 :: s7 :: s8 :: s9 :: s10 :: s11 :: s12 :: s13 :: s14 :: s15 :: s16 :: s17 :: .val d :: ρ) := id rfl
theorem f18_ato (k : D → En → Res β) : cps (eAt 18) (s0 :: s1 :: s2 :: s3 :: s4 :: s5 :: s6 :: s7 :: s8 :: s9 :: s10 :: s11 :: s12 :: s13 :: s14 :: s15 :: s16 :: s17 :: .own ds :: ρ) k = k (.list ds) (s0 :: s1 :: s2 :: s3 :: s4 :: s5 :: s6 :: s7 :: s8 :: s9 :: s10 :: s11 :: s12 :: s13 :: s14 :: s15 :: s16 :: s17 :: .own ds :: ρ) := id rfl
theorem f18_vrv (k : D → En → Res β) : cps (eVar 18) (s0 :: s1 :: s2 :: s3 :: s4 :: s5 :: s6 :: s7 :: s8 :: s9 :: s10 :: s11 :: s12 :: s13 :: s14 :: s15 :: s16 :: s17 :: .val d :: ρ) k = k d (s0 :: s1 :: s2 :: s3 :: s4 :: s5 :: s6 :: s7 :: s8 :: s9 :: s10 :: s11 :: s12 :: s13 :: s14 :: s15 :: s16 :: s17 :: .val d :: ρ) := id rfl
theorem f18_vro (k : D → En → Res β) : cps (eVar 18) (s0 :: s1 :: s2 :: s3 :: s4 :: s5 :: s6 :: s7 :: s8 :: s9 :: s10 :: s11 :: s12 :: s13 :: s14 :: s15 :: s16 :: s17 :: .own ds :: ρ) k = k (.list ds) (s0 :: s1 :: s2 :: s3 :: s4 :: s5 :: s6 :: s7 :: s8 :: s9 :: s10 :: s11 :: s12 :: s13 :: s14 :: s15 :: s16 :: s17 :: .val (.list ds) :: ρ) := id rfl
theorem f18_iso (k : Unit → En → Res β) : cps (isO 18) (s0 :: s1 :: s2 :: s3 :: s4 :: s5 :: s6 :: s7 :: s8 :: s9 :: s10 :: s11 :: s12 :: s13 :: s14 :: s15 :: s16 :: s17 :: .own ds :: ρ) k = k () (s0 :: s1 :: s2 :: s3 :: s4 :: s5 :: s6 :: s7 :: s8 :: s9 :: s10 :: s11 :: s12 :: s13 :: s14 :: s15 :: s16 :: s17 :: .own ds :: ρ) := id rfl
theorem f18_isT (k : Unit → En → Res β) : cps (isDI 18) (s0 :: s1 :: s2 :: s3 :: s4 :: s5 :: s6 :: s7 :: s8 :: s9 :: s10 :: s11 :: s12 :: s13 :: s14 :: s15 :: s16 :: s17 :: .dT kt :: ρ) k = k () (s0 :: s1 :: s2 :: s3 :: s4 :: s5 :: s6 :: s7 :: s8 :: s9 :: s10 :: s11 :: s12 :: s13 :: s14 :: s15 :: s16 :: s17 :: .dT kt :: ρ) := id rfl
theorem f18_isK (k : Unit → En → Res β) : cps (isDI 18) (s0 :: s1 :: s2 :: s3 :: s4 :: s5 :: s6 :: s7 :: s8 :: s9 :: s10 :: s11 :: s12 :: s13 :: s14 :: s15 :: s16 :: s17 :: .dK kk :: ρ) k = k () (s0 :: s1 :: s2 :: s3 :: s4 :: s5 :: s6 :: s7 :: s8 :: s9 :: s10 :: s11 :: s12 :: s13 :: s14 :: s15 :: s16 :: s17 :: .dK kk :: ρ) := id rfl
theorem f18_stV (k : Unit → En → Res β) : cps (setV 18 d) (s0 :: s1 :: s2 :: s3 :: s4 :: s5 :: s6 :: s7 :: s8 :: s9 :: s10 :: s11 :: s12 :: s13 :: s14 :: s15 :: s16 :: s17 :: s18 :: ρ) k = k () (s0 :: s1 :: s2 :: s3 :: s4 :: s5 :: s6 :: s7 :: s8 :: s9 :: s10 :: s11 :: s12 :: s13 :: s14 :: s15 :: s16 :: s17 :: .val d :: ρ) := st_at (a := .val d) rfl
theorem f18_stO (k : Unit → En → Res β) : cps (setO 18 ds) (s0 :: s1 :: s2 :: s3 :: s4 :: s5 :: s6 :: s7 :: s8 :: s9 :: s10 :: s11 :: s12 :: s13 :: s14 :: s15 :: s16 :: s17 :: s18 :: ρ) k = k () (s0 :: s1 :: s2 :: s3 :: s4 :: s5 :: s6 :: s7 :: s8 :: s9 :: s10 :: s11 :: s12 :: s13 :: s14 :: s15 :: s16 :: s17 :: .own ds :: ρ) := st_at (a := .own ds) rfl
theorem f18_stS (s : Sl) (k : Unit → En → Res β) : cps (setS 18 s) (s0 :: s1 :: s2 :: s3 :: s4 :: s5 :: s6 :: s7 :: s8 :: s9 :: s10 :: s11 :: s12 :: s13 :: s14 :: s15 :: s16 :: s17 :: s18 :: ρ) k = k () (s0 :: s1 :: s2 :: s3 :: s4 :: s5 :: s6 :: s7 :: s8 :: s9 :: s10 :: s11 :: s12 :: s13 :: s14 :: s15 :: s16 :: s17 :: s :: ρ) := st_at (a := s) rfl
theorem f18_app (k : Unit → En → Res β) : cps (appO 18 d) (s0 :: s1 :: s2 :: s3 :: s4 :: s5 :: s6 :: s7 :: s8 :: s9 :: s10 :: s11 :: s12 :: s13 :: s14 :: s15 :: s16 :: s17 :: .own ds :: ρ) k = (appR ds d).bind fun l => k () (s0 :: s1 :: s2 :: s3 :: s4 :: s5 :: s6 :: s7 :: s8 :: s9 :: s10 :: s11 :: s12 :: s13 :: s14 :: s15 :: s16 :: s17 :: .own l :: ρ) := ap_at rfl rfl
theorem f18_ext (k : Unit → En → Res β) : cps (extO 18 d) (s0 :: s1 :: s2 :: s3 :: s4 :: s5 :: s6 :: s7 :: s8 :: s9 :: s10 :: s11 :: s12 :: s13 :: s14 :: s15 :: s16 :: s17 :: .own ds :: ρ) k = (extR ds d).bind fun l => k () (s0 :: s1 :: s2 :: s3 :: s4 :: s5 :: s6 :: s7 :: s8 :: s9 :: s10 :: s11 :: s12 :: s13 :: s14 :: s15 :: s16 :: s17 :: .own l :: ρ) := ex_at rfl rfl
theorem f18_six (k : Unit → En → Res β) : cps (setIxO 18 d e) (s0 :: s1 :: s2 :: s3 :: s4 :: s5 :: s6 :: s7 :: s8 :: s9 :: s10 :: s11 :: s12 :: s13 :: s14 :: s15 :: s16 :: s17 :: .own ds :: ρ) k = (setR ds d e).bind fun l => k () (s0 :: s1 :: s2 :: s3 :: s4 :: s5 :: s6 :: s7 :: s8 :: s9 :: s10 :: s11 :: s12 :: s13 :: s14 :: s15 :: s16 :: s17 :: .own l :: ρ) := sx_at rfl rfl
theorem f18_pop (k : D → En → Res β) : cps (popO 18) (s0 :: s1 :: s2 :: s3 :: s4 :: s5 :: s6 :: s7 :: s8 :: s9 :: s10 :: s11 :: s12 :: s13 :: s14 :: s15 :: s16 :: s17 :: .own ds :: ρ) k = (popR ds).bind fun l => k l.1 (s0 :: s1 :: s2 :: s3 :: s4 :: s5 :: s6 :: s7 :: s8 :: s9 :: s10 :: s11 :: s12 :: s13 :: s14 :: s15 :: s16 :: s17 :: .own l.2 :: ρ) := po_at rfl rfl
theorem f18_poa (k : D → En → Res β) : cps (popAtO 18 d) (s0 :: s1 :: s2 :: s3 :: s4 :: s5 :: s6 :: s7 :: s8 :: s9 :: s10 :: s11 :: s12 :: s13 :: s14 :: s15 :: s16 :: s17 :: .own ds :: ρ) k = (popAtR ds d).bind fun l => k l.1 (s0 :: s1 :: s2 :: s3 :: s4 :: s5 :: s6 :: s7 :: s8 :: s9 :: s10 :: s11 :: s12 :: s13 :: s14 :: s15 :: s16 :: s17 :: .own l.2 :: ρ) := pa_at rfl rfl
theorem f18_get (k : Option D → En → Res β) : cps (getDI 18 d) (s0 :: s1 :: s2 :: s3 :: s4 :: s5 :: s6 :: s7 :: s8 :: s9 :: s10 :: s11 :: s12 :: s13 :: s14 :: s15 :: s16 :: s17 :: .dT kt :: ρ) k = (getTR kt d).bind fun l => k l (s0 :: s1 :: s2 :: s3 :: s4 :: s5 :: s6 :: s7 :: s8 :: s9 :: s10 :: s11 :: s12 :: s13 :: s14 :: s15 :: s16 :: s17 :: .dT kt :: ρ) := gt_at rfl rfl
theorem f18_gek (k : Option D → En → Res β) : cps (getDI 18 d) (s0 :: s1 :: s2 :: s3 :: s4 :: s5 :: s6 :: s7 :: s8 :: s9 :: s10 :: s11 :: s12 :: s13 :: s14 :: s15 :: s16 :: s17 :: .dK kk :: ρ) k = (getKR kk d).bind fun l => k l (s0 :: s1 :: s2 :: s3 :: s4 :: s5 :: s6 :: s7 :: s8 :: s9 :: s10 :: s11 :: s12 :: s13 :: s14 :: s15 :: s16 :: s17 :: .dK kk :: ρ) := gk_at rfl rfl
theorem f18_put (k : Unit → En → Res β) : cps (putDI 18 d e) (s0 :: s1 :: s2 :: s3 :: s4 :: s5 :: s6 :: s7 :: s8 :: s9 :: s10 :: s11 :: s12 :: s13 :: s14 :: s15 :: s16 :: s17 :: .dT kt :: ρ) k = (putTR kt d e).bind fun l => k () (s0 :: s1 :: s2 :: s3 :: s4 :: s5 :: s6 :: s7 :: s8 :: s9 :: s10 :: s11 :: s12 :: s13 :: s14 :: s15 :: s16 :: s17 :: .dT l :: ρ) := pt_at rfl rfl
theorem f18_puk (k : Unit → En → Res β) : cps (putDI 18 d e) (s0 :: s1 :: s2 :: s3 :: s4 :: s5 :: s6 :: s7 :: s8 :: s9 :: s10 :: s11 :: s12 :: s13 :: s14 :: s15 :: s16 :: s17 :: .dK kk :: ρ) k = (putKR kk d e).bind fun l => k () (s0 :: s1 :: s2 :: s3 :: s4 :: s5 :: s6 :: s7 :: s8 :: s9 :: s10 :: s11 :: s12 :: s13 :: s14 :: s15 :: s16 :: s17 :: .dK l :: ρ) := pk_at rfl rfl
theorem f18_sok (k : List D → En → Res β) : cps (eSortD 18) (s0 :: s1 :: s2 :: s3 :: s4 :: s5 :: s6 :: s7 :: s8 :: s9 :: s10 :: s11 :: s12 :: s13 :: s14 :: s15 :: s16 :: s17 :: .dK kk :: ρ) k = (sortKR kk).bind fun l => k l (s0 :: s1 :: s2 :: s3 :: s4 :: s5 :: s6 :: s7 :: s8 :: s9 :: s10 :: s11 :: s12 :: s13 :: s14 :: s15 :: s16 :: s17 :: .dK kk :: ρ) := so_at rfl
theorem f18_sot (k : List D → En → Res β) : cps (eSortT 18) (s0 :: s1 :: s2 :: s3 :: s4 :: s5 :: s6 :: s7 :: s8 :: s9 :: s10 :: s11 :: s12 :: s13 :: s14 :: s15 :: s16 :: s17 :: .dT kt :: ρ) k = (sortTR kt).bind fun l => k l (s0 :: s1 :: s2 :: s3 :: s4 :: s5 :: s6 :: s7 :: s8 :: s9 :: s10 :: s11 :: s12 :: s13 :: s14 :: s15 :: s16 :: s17 :: .dT kt :: ρ) := sot_at rfl
theorem f18_lid (k : List D → En → Res β) : cps (eListD 18) (s0 :: s1 :: s2 :: s3 :: s4 :: s5 :: s6 :: s7 :: s8 :: s9 :: s10 :: s11 :: s12 :: s13 :: s14 :: s15 :: s16 :: s17 :: .dT kt :: ρ) k = (listDT kt).bind fun l => k l (s0 :: s1 :: s2 :: s3 :: s4 :: s5 :: s6 :: s7 :: s8 :: s9 :: s10 :: s11 :: s12 :: s13 :: s14 :: s15 :: s16 :: s17 :: .dT kt :: ρ) := lid_at rfl
theorem f18_cal (f : List D → List D → Res (D × List D)) (k : D → En → Res β) : cps (callO 18 f es) (s0 :: s1 :: s2 :: s3 :: s4 :: s5 :: s6 :: s7 :: s8 :: s9 :: s10 :: s11 :: s12 :: s13 :: s14 :: s15 :: s16 :: s17 :: .own ds :: ρ) k = (nxR (f ds es)).bind fun l => k l.1 (s0 :: s1 :: s2 :: s3 :: s4 :: s5 :: s6 :: s7 :: s8 :: s9 :: s10 :: s11 :: s12 :: s13 :: s14 :: s15 :: s16 :: s17 :: .own l.2 :: ρ) := ca_at rfl rfl
theorem f18_fz (k : Fl → En → Res β) : cps (sPre (18 :: fz) wp g) (s0 :: s1 :: s2 :: s3 :: s4 :: s5 :: s6 :: s7 :: s8 :: s9 :: s10 :: s11 :: s12 :: s13 :: s14 :: s15 :: s16 :: s17 :: .own ds :: ρ) k = cps (sPre fz wp g) (s0 :: s1 :: s2 :: s3 :: s4 :: s5 :: s6 :: s7 :: s8 :: s9 :: s10 :: s11 :: s12 :: s13 :: s14 :: s15 :: s16 :: s17 :: .val (.list ds) :: ρ) k := id rfl
theorem f18_wp (k : Fl → En → Res β) : cps (sPre [] (18 :: wp) g) (s0 :: s1 :: s2 :: s3 :: s4 :: s5 :: s6 :: s7 :: s8 :: s9 :: s10 :: s11 :: s12 :: s13 :: s14 :: s15 :: s16 :: s17 :: s18 :: ρ) k = cps (sPre [] wp g) (s0 :: s1 :: s2 :: s3 :: s4 :: s5 :: s6 :: s7 :: s8 :: s9 :: s10 :: s11 :: s12 :: s13 :: s14 :: s15 :: s16 :: s17 :: .emp :: ρ) k := id rfl
theorem f19_nmv (k : M D → En → Res β) : cps (eNm 19) (s0 :: s1 :: s2 :: s3 :: s4 :: s5 :: s6 :: s7 :: s8 :: s9 :: s10 :: s11 :: s12 :: s13 :: s14 :: s15 :: s16 :: s17 :: s18 :: .val d :: ρ) k = k (eAt 19) (s0 :: s1 :: s2 :: s3 :: s4 :: s5 :: s6 :: s7 :: s8 :: s9 :: s10 :: s11 :: s12 :: s13 :: s14 :: s15 :: s16 :: s17 :: s18 :: .val d :: ρ) := id rfl
theorem f19_nmo (k : M D → En → Res β) : cps (eNm 19) (s0 :: s1 :: s2 :: s3 :: s4 :: s5 :: s6 :: s7 :: s8 :: s9 :: s10 :: s11 :: s12 :: s13 :: s14 :: s15 :: s16 :: s17 :: s18 :: .own ds :: ρ) k = k (eAt 19) (s0 :: s1 :: s2 :: s3 :: s4 :: s5 :: s6 :: s7 :: s8 :: s9 :: s10 :: s11 :: s12 :: s13 :: s14 :: s15 :: s16 :: s17 :: s18 :: .own ds :: ρ) := id rfl
theorem f19_atv (k : D → En → Res β) : cps (eAt 19) (s0 :: s1 :: s2 :: s3 :: s4 :: s5 :: s6 :: s7 :: s8 :: s9 :: s10 :: s11 :: s12 :: s13 :: s14 :: s15 :: s16 :: s17 :: s18 :: .val d :: ρ) k = k d (s0 :: s1 :: s2 :: s3 :: s4 :: s5 :: s6 :: s7 :: s8 :: s9 :: s10 :: s11 :: s12 :: s13 :: s14 :: s15 :: s16 :: s17 :: s18 :: .val d :: ρ) := id rfl
theorem f19_ato (k : D → En → Res β) : cps (eAt 19) (s0 :: s1 :: s2 :: s3 :: s4 :: s5 :: s6 :: s7 :: s8 :: s9 :: s10 :: s11 :: s12 :: s13 :: s14 :: s15 :: s16 :: s17 :: s18 :: .own ds :: ρ) k = k (.list ds) (s0 :: s1 :: s2 :: s3 :: s4 :: s5 :: s6 :: s7 :: s8 :: s9 :: s10 :: s11 :: s12 :: s13 :: s14 :: s15 :: s16 :: s17 :: s18 :: .own ds :: ρ) := id rfl
theorem f19_vrv (k : D → En → Res β) : cps (eVar 19) (s0 :: s1 :: s2 :: s3 :: s4 :: s5 :: s6 :: s7 :: s8 :: s9 :: s10 :: s11 :: s12 :: s13 :: s14 :: s15 :: s16 :: s17 :: s18 :: .val d :: ρ) k = k d (s0 :: s1 :: s2 :: s3 :: s4 :: s5 :: s6 :: s7 :: s8 :: s9 :: s10 :: s11 :: s12 :: s13 :: s14 :: s15 :: s16 :: s17 :: s18 :: .val d :: ρ) := id rfl
theorem f19_vro (k : D → En → Res β) : cps (eVar 19) (s0 :: s1 :: s2 :: s3 :: s4 :: s5 :: s6 :: s7 :: s8 :: s9 :: s10 :: s11 :: s12 :: s13 :: s14 :: s15 :: s16 :: s17 :: s18 :: .own ds :: ρ) k = k (.list ds) (s0 :: s1 :: s2 :: s3 :: s4 :: s5 :: s6 :: s7 :: s8 :: s9 :: s10 :: s11 :: s12 :: s13 :: s14 :: s15 :: s16 :: s17 :: s18 :: .val (.list ds) :: ρ) := id rfl
theorem f19_iso (k : Unit → En → Res β) : cps (isO 19) (s0 :: s1 :: s2 :: s3 :: s4 :: s5 :: s6 :: s7 :: s8 :: s9 :: s10 :: s11 :: s12 :: s13 :: s14 :: s15 :: s16 :: s17 :: s18 :: .own ds :: ρ) k = k () (s0 :: s1 :: s2 :: s3 :: s4 :: s5 :: s6 :: s7 :: s8 :: s9 :: s10 :: s11 :: s12 :: s13 :: s14 :: s15 :: s16 :: s17 :: s18 :: .own ds :: ρ) := id rfl
theorem f19_isT (k : Unit → En → Res β) : cps (isDI 19) (s0 :: s1 :: s2 :: s3 :: s4 :: s5 :: s6 :: s7 :: s8 :: s9 :: s10 :: s11 :: s12 :: s13 :: s14 :: s15 :: s16 :: s17 :: s18 :: .dT kt :: ρ) k = k () (s0 :: s1 :: s2 :: s3 :: s4 :: s5 :: s6 :: s7 :: s8 :: s9 :: s10 :: s11 :: s12 :: s13 :: s14 :: s15 :: s16 :: s17 :: s18 :: .dT kt :: ρ) := id rfl
theorem f19_isK (k : Unit → En → Res β) : cps (isDI 19) (s0 :: s1 :: s2 :: s3 :: s4 :: s5 :: s6 :: s7 :: s8 :: s9 :: s10 :: s11 :: s12 :: s13 :: s14 :: s15 :: s16 :: s17 :: s18 :: .dK kk :: ρ) k = k () (s0 :: s1 :: s2 :: s3 :: s4 :: s5 :: s6 :: s7 :: s8 :: s9 :: s10 :: s11 :: s12 :: s13 :: s14 :: s15 :: s16 :: s17 :: s18 :: .dK kk :: ρ) := id rfl
theorem f19_stV (k : Unit → En → Res β) : cps (setV 19 d) (s0 :: s1 :: s2 :: s3 :: s4 :: s5 :: s6 :: s7 :: s8 :: s9 :: s10 :: s11 :: s12 :: s13 :: s14 :: s15 :: s16 :: s17 :: s18 :: s19 :: ρ) k = k () (s0 :: s1 :: s2 :: s3 :: s4 :: s5 :: s6 :: s7 :: s8 :: s9 :: s10 :: s11 :: s12 :: s13 :: s14 :: s15 :: s16 :: s17 :: s18 :: .val d :: ρ) := st_at (a := .val d) rfl
theorem f19_stO (k : Unit → En → Res β) : cps (setO 19 ds) (s0 :: s1 :: s2 :: s3 :: s4 :: s5 :: s6 :: s7 :: s8 :: s9 :: s10 :: s11 :: s12 :: s13 :: s14 :: s15 :: s16 :: s17 :: s18 :: s19 :: ρ) k = k () (s0 :: s1 :: s2 :: s3 :: s4 :: s5 :: s6 :: s7 :: s8 :: s9 :: s10 :: s11 :: s12 :: s13 :: s14 :: s15 :: s16 :: s17 :: s18 :: .own ds :: ρ) := st_at (a := .own ds) rfl
theorem f19_stS (s : Sl) (k : Unit → En → Res β) : cps (setS 19 s) (s0 :: s1 :: s2 :: s3 :: s4 :: s5 :: s6 :: s7 :: s8 :: s9 :: s10 :: s11 :: s12 :: s13 :: s14 :: s15 :: s16 :: s17 :: s18 :: s19 :: ρ) k = k () (s0 :: s1 :: s2 :: s3 :: s4 :: s5 :: s6 :: s7 :: s8 :: s9 :: s10 :: s11 :: s12 :: s13 :: s14 :: s15 :: s16 :: s17 :: s18 :: s :: ρ) := st_at (a := s) rfl
theorem f19_app (k : Unit → En → Res β) : cps (appO 19 d) (s0 :: s1 :: s2 :: s3 :: s4 :: s5 :: s6 :: s7 :: s8 :: s9 :: s10 :: s11 :: s12 :: s13 :: s14 :: s15 :: s16 :: s17 :: s18 :: .own ds :: ρ) k = (appR ds d).bind fun l => k () (s0 :: s1 :: s2 :: s3 :: s4 :: s5 :: s6 :: s7 :: s8 :: s9 :: s10 :: s11 :: s12 :: s13 :: s14 :: s15 :: s16 :: s17 :: s18 :: .own l :: ρ) := ap_at rfl rfl
theorem f19_ext (k : Unit → En → Res β) : cps (extO 19 d) (s0 :: s1 :: s2 :: s3 :: s4 :: s5 :: s6 :: s7 :: s8 :: s9 :: s10 :: s11 :: s12 :: s13 :: s14 :: s15 :: s16 :: s17 :: s18 :: .own ds :: ρ) k = (extR ds d).bind fun l => k () (s0 :: s1 :: s2 :: s3 :: s4 :: s5 :: s6 :: s7 :: s8 :: s9 :: s10 :: s11 :: s12 :: s13 :: s14 :: s15 :: s16 :: s17 :: s18 :: .own l :: ρ) := ex_at rfl rfl
theorem f19_six (k : Unit → En → Res β) : cps (setIxO 19 d e) (s0 :: s1 :: s2 :: s3 :: s4 :: s5 :: s6 :: s7 :: s8 :: s9 :: s10 :: s11 :: s12 :: s13 :: s14 :: s15 :: s16 :: s17 :: s18 :: .own ds :: ρ) k = (setR ds d e).bind fun l => k () (s0 :: s1 :: s2 :: s3 :: s4 :: s5 :: s6 :: s7 :: s8 :: s9 :: s10 :: s11 :: s12 :: s13 :: s14 :: s15 :: s16 :: s17 :: s18 :: .own l :: ρ) := sx_at rfl rfl
theorem f19_pop (k : D → En → Res β) : cps (popO 19) (s0 :: s1 :: s2 :: s3 :: s4 :: s5 :: s6 :: s7 :: s8 :: s9 :: s10 :: s11 :: s12 :: s13 :: s14 :: s15 :: s16 :: s17 :: s18 :: .own ds :: ρ) k = (popR ds).bind fun l => k l.1 (s0 :: s1 :: s2 :: s3 :: s4 :: s5 :: s6 :: s7 :: s8 :: s9 :: s10 :: s11 :: s12 :: s13 :: s14 :: s15 :: s16 :: s17 :: s18 :: .own l.2 :: ρ) := po_at rfl rfl
theorem f19_poa (k : D → En → Res β) : cps (popAtO 19 d) (s0 :: s1 :: s2 :: s3 :: s4 :: s5 :: s6 :: s7 :: s8 :: s9 :: s10 :: s11 :: s12 :: s13 :: s14 :: s15 :: s16 :: s17 :: s18 :: .own ds :: ρ) k = (popAtR ds d).bind fun l => k l.1 (s0 :: s1 :: s2 :: s3 :: s4 :: s5 :: s6 :: s7 :: s8 :: s9 :: s10 :: s11 :: s12 :: s13 :: s14 :: s15 :: s16 :: s17 :: s18 :: .own l.2 :: ρ) := pa_at rfl rfl
theorem f19_get (k : Option D → En → Res β) : cps (getDI 19 d) (s0 :: s1 :: s2 :: s3 :: s4 :: s5 :: s6 :: s7 :: s8 :: s9 :: s10 :: s11 :: s12 :: s13 :: s14 :: s15 :: s16 :: s17 :: s18 :: .dT kt :: ρ) k = (getTR kt d).bind fun l => k l (s0 :: s1 :: s2 :: s3 :: s4 :: s5 :: s6 :: s7 :: s8 :: s9 :: s10 :: s11 :: s12 :: s13 :: s14 :: s15 :: s16 :: s17 :: s18 :: .dT kt :: ρ) := gt_at rfl rfl
theorem f19_gek (k : Option D → En → Res β) : cps (getDI 19 d) (s0 :: s1 :: s2 :: s3 :: s4 :: s5 :: s6 :: s7 :: s8 :: s9 :: s10 :: s11 :: s12 :: s13 :: s14 :: s15 :: s16 :: s17 :: s18 :: .dK kk :: ρ) k = (getKR kk d).bind fun l => k l (s0 :: s1 :: s2 :: s3 :: s4 :: s5 :: s6 :: s7 :: s8 :: s9 :: s10 :: s11 :: s12 :: s13 :: s14 :: s15 :: s16 :: s17 :: s18 :: .dK kk :: ρ) := gk_at rfl rfl
theorem f19_put (k : Unit → En → Res β) : cps (putDI 19 d e) (s0 :: s1 :: s2 :: s3 :: s4 :: s5 :: s6 :: s7 :: s8 :: s9 :: s10 :: s11 :: s12 :: s13 :: s14 :: s15 :: s16 :: s17 :: s18 :: .dT kt :: ρ) k = (putTR kt d e).bind fun l => k () (s0 :: s1 :: s2 :: s3 :: s4 :: s5 :: s6 :: s7 :: s8 :: s9 :: s10 :: s11 :: s12 :: s13 :: s14 :: s15 :: s16 :: s17 :: s18 :: .dT l :: ρ) := pt_at rfl rfl
theorem f19_puk (k : Unit → En → Res β) : cps (putDI 19 d e) (s0 :: s1 :: s2 :: s3 :: s4 :: s5 :: s6 :: s7 :: s8 :: s9 :: s10 :: s11 :: s12 :: s13 :: s14 :: s15 :: s16 :: s17 :: s18 :: .dK kk :: ρ) k = (putKR kk d e).bind fun l => k () (s0 :: s1 :: s2 :: s3 :: s4 :: s5 :: s6 :: s7 :: s8 :: s9 :: s10 :: s11 :: s12 :: s13 :: s14 :: s15 :: s16 :: s17 :: s18 :: .dK l :: ρ) := pk_at rfl rfl
theorem f19_sok (k : List D → En → Res β) : cps (eSortD 19) (s0 :: s1 :: s2 :: s3 :: s4 :: s5 :: s6 :: s7 :: s8 :: s9 :: s10 :: s11 :: s12 :: s13 :: s14 :: s15 :: s16 :: s17 :: s18 :: .dK kk :: ρ) k = (sortKR kk).bind fun l => k l (s0 :: s1 :: s2 :: s3 :: s4 :: s5 :: s6 :: s7 :: s8 :: s9 :: s10 :: s11 :: s12 :: s13 :: s14 :: s15 :: s16 :: s17 :: s18 :: .dK kk :: ρ) := so_at rfl
theorem f19_sot (k : List D → En → Res β) : cps (eSortT 19) (s0 :: s1 :: s2 :: s3 :: s4 :: s5 :: s6 :: s7 :: s8 :: s9 :: s10 :: s11 :: s12 :: s13 :: s14 :: s15 :: s16 :: s17 :: s18 :: .dT kt :: ρ) k = (sortTR kt).bind fun l => k l (s0 :: s1 :: s2 :: s3 :: s4 :: s5 :: s6 :: s7 :: s8 :: s9 :: s10 :: s11 :: s12 :: s13 :: s14 :: s15 :: s16 :: s17 :: s18 :: .dT kt :: ρ) := sot_at rfl
theorem f19_lid (k : List D → En → Res β) : cps (eListD 19) (s0 :: s1 :: s2 :: s3 :: s4 :: s5 :: s6 :: s7 :: s8 :: s9 :: s10 :: s11 :: s12 :: s13 :: s14 :: s15 :: s16 :: s17 :: s18 :: .dT kt :: ρ) k = (listDT kt).bind fun l => k l (s0 :: s1 :: s2 :: s3 :: s4 :: s5 :: s6 :: s7 :: s8 :: s9 :: s10 :: s11 :: s12 :: s13 :: s14 :: s15 :: s16 :: s17 :: s18 :: .dT kt :: ρ) := lid_at rfl
theorem f19_cal (f : List D → List D → Res (D × List D)) (k : D → En → Res β) : cps (callO 19 f es) (s0 :: s1 :: s2 :: s3 :: s4 :: s5 :: s6 :: s7 :: s8 :: s9 :: s10 :: s11 :: s12 :: s13 :: s14 :: s15 :: s16 :: s17 :: s18 :: .own ds :: ρ) k = (nxR (f ds es)).bind fun l => k l.1 (s0 :: s1 :: s2 :: s3 :: s4 :: s5 :: s6 :: s7 :: s8 :: s9 :: s10 :: s11 :: s12 :: s13 :: s14 :: s15 :: s16 :: s17 :: s18 :: .own l.2 :: ρ) := ca_at rfl rfl
theorem f19_fz (k : Fl → En → Res β) : cps (sPre (19 :: fz) wp g) (s0 :: s1 :: s2 :: s3 :: s4 :: s5 :: s6 :: s7 :: s8 :: s9 :: s10 :: s11 :: s12 :: s13 :: s14 :: s15 :: s16 :: s17 :: s18 :: .own ds :: ρ) k = cps (sPre fz wp g) (s0 :: s1 :: s2 :: s3 :: s4 :: s5 :: s6 :: s7 :: s8 :: s9 :: s10 :: s11 :: s12 :: s13 :: s14 :: s15 :: s16 :: s17 :: s18 :: .val (.list ds) :: ρ) k := id rfl
theorem f19_wp (k : Fl → En → Res β) : cps (sPre [] (19 :: wp) g) (s0 :: s1 :: s2 :: s3 :: s4 :: s5 :: s6 :: s7 :: s8 :: s9 :: s10 :: s11 :: s12 :: s13 :: s14 :: s15 :: s16 :: s17 :: s18 :: s19 :: ρ) k = cps (sPre [] wp g) (s0 :: s1 :: s2 :: s3 :: s4 :: s5 :: s6 :: s7 :: s8 :: s9 :: s10 :: s11 :: s12 :: s13 :: s14 :: s15 :: s16 :: s17 :: s18 :: .emp :: ρ) k := id rfl
theorem f0_scr (k : List Int → En → Res β) : cps (scrAt 0) (.scr ns :: ρ) k = k ns (.scr ns :: ρ) := id rfl
theorem c_pre0 (k : Fl → En → Res β) : cps (sPre [] [] g) ρ k = cps g ρ k := id rfl
end
section
variable {β : Type}
theorem few0 (k : List D → Res β) : (few []).bind k = k [] := by rw [few_ok (by simp), rb_ok]
theorem few1 (d0 : D) (k : List D → Res β) : (few [d0]).bind k = k [d0] := by rw [few_ok (by simp), rb_ok]
theorem few2 (d0 d1 : D) (k : List D → Res β) : (few [d0, d1]).bind k = k [d0, d1] := by rw [few_ok (by simp), rb_ok]
theorem few3 (d0 d1 d2 : D) (k : List D → Res β) : (few [d0, d1, d2]).bind k = k [d0, d1, d2] := by rw [few_ok (by simp), rb_ok]
theorem few4 (d0 d1 d2 d3 : D) (k : List D → Res β) : (few [d0, d1, d2, d3]).bind k = k [d0, d1, d2, d3] := by rw [few_ok (by simp), rb_ok]
theorem few5 (d0 d1 d2 d3 d4 : D) (k : List D → Res β) : (few [d0, d1, d2, d3, d4]).bind k = k [d0, d1, d2, d3, d4] := by rw [few_ok (by simp), rb_ok]
theorem few6 (d0 d1 d2 d3 d4 d5 : D) (k : List D → Res β) : (few [d0, d1, d2, d3, d4, d5]).bind k = k [d0, d1, d2, d3, d4, d5] := by rw [few_ok (by simp), rb_ok]
theorem few7 (d0 d1 d2 d3 d4 d5 d6 : D) (k : List D → Res β) : (few [d0, d1, d2, d3, d4, d5, d6]).bind k = k [d0, d1, d2, d3, d4, d5, d6] := by rw [few_ok (by simp), rb_ok]
theorem few8 (d0 d1 d2 d3 d4 d5 d6 d7 : D) (k : List D → Res β) : (few [d0, d1, d2, d3, d4, d5, d6, d7]).bind k = k [d0, d1, d2, d3, d4, d5, d6, d7] := by rw [few_ok (by simp), rb_ok]
theorem few9 (d0 d1 d2 d3 d4 d5 d6 d7 d8 : D) (k : List D → Res β) : (few [d0, d1, d2, d3, d4, d5, d6, d7, d8]).bind k = k [d0, d1, d2, d3, d4, d5, d6, d7, d8] := by rw [few_ok (by simp), rb_ok]
theorem few10 (d0 d1 d2 d3 d4 d5 d6 d7 d8 d9 : D) (k : List D → Res β) : (few [d0, d1, d2, d3, d4, d5, d6, d7, d8, d9]).bind k = k [d0, d1, d2, d3, d4, d5, d6, d7, d8, d9] := by rw [few_ok (by simp), rb_ok]
theorem few11 (d0 d1 d2 d3 d4 d5 d6 d7 d8 d9 d10 : D) (k : List D → Res β) : (few [d0, d1, d2, d3, d4, d5, d6, d7, d8, d9, d10]).bind k = k [d0, d1, d2, d3, d4, d5, d6, d7, d8, d9, d10] := by rw [few_ok (by simp), rb_ok]
theorem few12 (d0 d1 d2 d3 d4 d5 d6 d7 d8 d9 d10 d11 : D) (k : List D → Res β) : (few [d0, d1, d2, d3, d4, d5, d6, d7, d8, d9, d10, d11]).bind k = k [d0, d1, d2, d3, d4, d5, d6, d7, d8, d9, d10, d11] := by rw [few_ok (by simp), rb_ok]
theorem few13 (d0 d1 d2 d3 d4 d5 d6 d7 d8 d9 d10 d11 d12 : D) (k : List D → Res β) : (few [d0, d1, d2, d3, d4, d5, d6, d7, d8, d9, d10, d11, d12]).bind k = k [d0, d1, d2, d3, d4, d5, d6, d7, d8, d9, d10, d11, d12] := by rw [few_ok (by simp), rb_ok]
theorem few14 (d0 d1 d2 d3 d4 d5 d6 d7 d8 d9 d10 d11 d12 d13 : D) (k : List D → Res β) : (few [d0, d1, d2, d3, d4, d5, d6, d7, d8, d9, d10, d11, d12, d13]).bind k = k [d0, d1, d2, d3, d4, d5, d6, d7, d8, d9, d10, d11, d12, d13] := by rw [few_ok (by simp), rb_ok]
theorem few15 (d0 d1 d2 d3 d4 d5 d6 d7 d8 d9 d10 d11 d12 d13 d14 : D) (k : List D → Res β) : (few [d0, d1, d2, d3, d4, d5, d6, d7, d8, d9, d10, d11, d12, d13, d14]).bind k = k [d0, d1, d2, d3, d4, d5, d6, d7, d8, d9, d10, d11, d12, d13, d14] := by rw [few_ok (by simp), rb_ok]
theorem few16 (d0 d1 d2 d3 d4 d5 d6 d7 d8 d9 d10 d11 d12 d13 d14 d15 : D) (k : List D → Res β) : (few [d0, d1, d2, d3, d4, d5, d6, d7, d8, d9, d10, d11, d12, d13, d14, d15]).bind k = k [d0, d1, d2, d3, d4, d5, d6, d7, d8, d9, d10, d11, d12, d13, d14, d15] := by rw [few_ok (by simp), rb_ok]
theorem few17 (d0 d1 d2 d3 d4 d5 d6 d7 d8 d9 d10 d11 d12 d13 d14 d15 d16 : D) (k : List D → Res β) : (few [d0, d1, d2, d3, d4, d5, d6, d7, d8, d9, d10, d11, d12, d13, d14, d15, d16]).bind k = k [d0, d1, d2, d3, d4, d5, d6, d7, d8, d9, d10, d11, d12, d13, d14, d15, d16] := by rw [few_ok (by simp), rb_ok]
theorem few18 (d0 d1 d2 d3 d4 d5 d6 d7 d8 d9 d10 d11 d12 d13 d14 d15 d16 d17 : D) (k : List D → Res β) : (few [d0, d1, d2, d3, d4, d5, d6, d7, d8, d9, d10, d11, d12, d13, d14, d15, d16, d17]).bind k = k [d0, d1, d2, d3, d4, d5, d6, d7, d8, d9, d10, d11, d12, d13, d14, d15, d16, d17] := by rw [few_ok (by simp), rb_ok]
theorem few19 (d0 d1 d2 d3 d4 d5 d6 d7 d8 d9 d10 d11 d12 d13 d14 d15 d16 d17 d18 : D) (k : List D → Res β) : (few [d0, d1, d2, d3, d4, d5, d6, d7, d8, d9, d10, d11, d12, d13, d14, d15, d16, d17, d18]).bind k = k [d0, d1, d2, d3, d4, d5, d6, d7, d8, d9, d10, d11, d12, d13, d14, d15, d16, d17, d18] := by rw [few_ok (by simp), rb_ok]
theorem few20 (d0 d1 d2 d3 d4 d5 d6 d7 d8 d9 d10 d11 d12 d13 d14 d15 d16 d17 d18 d19 : D) (k : List D → Res β) : (few [d0, d1, d2, d3, d4, d5, d6, d7, d8, d9, d10, d11, d12, d13, d14, d15, d16, d17, d18, d19]).bind k = k [d0, d1, d2, d3, d4, d5, d6, d7, d8, d9, d10, d11, d12, d13, d14, d15, d16, d17, d18, d19] := by rw [few_ok (by simp), rb_ok]
theorem few21 (d0 d1 d2 d3 d4 d5 d6 d7 d8 d9 d10 d11 d12 d13 d14 d15 d16 d17 d18 d19 d20 : D) (k : List D → Res β) : (few [d0, d1, d2, d3, d4, d5, d6, d7, d8, d9, d10, d11, d12, d13, d14, d15, d16, d17, d18, d19, d20]).bind k = k [d0, d1, d2, d3, d4, d5, d6, d7, d8, d9, d10, d11, d12, d13, d14, d15, d16, d17, d18, d19, d20] := by rw [few_ok (by simp), rb_ok]
theorem few22 (d0 d1 d2 d3 d4 d5 d6 d7 d8 d9 d10 d11 d12 d13 d14 d15 d16 d17 d18 d19 d20 d21 : D) (k : List D → Res β) : (few [d0, d1, d2, d3, d4, d5, d6, d7, d8, d9, d10, d11, d12, d13, d14, d15, d16, d17, d18, d19, d20, d21]).bind k = k [d0, d1, d2, d3, d4, d5, d6, d7, d8, d9, d10, d11, d12, d13, d14, d15, d16, d17, d18, d19, d20, d21] := by rw [few_ok (by simp), rb_ok]
theorem few23 (d0 d1 d2 d3 d4 d5 d6 d7 d8 d9 d10 d11 d12 d13 d14 d15 d16 d17 d18 d19 d20 d21 d22 : D) (k : List D → Res β) : (few [d0, d1, d2, d3, d4, d5, d6, d7, d8, d9, d10, d11, d12, d13, d14, d15, d16, d17, d18, d19, d20, d21, d22]).bind k = k [d0, d1, d2, d3, d4, d5, d6, d7, d8, d9, d10, d11, d12, d13, d14, d15, d16, d17, d18, d19, d20, d21, d22] := by rw [few_ok (by simp), rb_ok]
theorem few24 (d0 d1 d2 d3 d4 d5 d6 d7 d8 d9 d10 d11 d12 d13 d14 d15 d16 d17 d18 d19 d20 d21 d22 d23 : D) (k : List D → Res β) : (few [d0, d1, d2, d3, d4, d5, d6, d7, d8, d9, d10, d11, d12, d13, d14, d15, d16, d17, d18, d19, d20, d21, d22, d23]).bind k = k [d0, d1, d2, d3, d4, d5, d6, d7, d8, d9, d10, d11, d12, d13, d14, d15, d16, d17, d18, d19, d20, d21, d22, d23] := by rw [few_ok (by simp), rb_ok]
theorem few25 (d0 d1 d2 d3 d4 d5 d6 d7 d8 d9 d10 d11 d12 d13 d14 d15 d16 d17 d18 d19 d20 d21 d22 d23 d24 : D) (k : List D → Res β) : (few [d0, d1, d2, d3, d4, d5, d6, d7, d8, d9, d10, d11, d12, d13, d14, d15, d16, d17, d18, d19, d20, d21, d22, d23, d24]).bind k = k [d0, d1, d2, d3, d4, d5, d6, d7, d8, d9, d10, d11, d12, d13, d14, d15, d16, d17, d18, d19, d20, d21, d22, d23, d24] := by rw [few_ok (by simp), rb_ok]
theorem few26 (d0 d1 d2 d3 d4 d5 d6 d7 d8 d9 d10 d11 d12 d13 d14 d15 d16 d17 d18 d19 d20 d21 d22 d23 d24 d25 : D) (k : List D → Res β) : (few [d0, d1, d2, d3, d4, d5, d6, d7, d8, d9, d10, d11, d12, d13, d14, d15, d16, d17, d18, d19, d20, d21, d22, d23, d24, d25]).bind k = k [d0, d1, d2, d3, d4, d5, d6, d7, d8, d9, d10, d11, d12, d13, d14, d15, d16, d17, d18, d19, d20, d21, d22, d23, d24, d25] := by rw [few_ok (by simp), rb_ok]
theorem few27 (d0 d1 d2 d3 d4 d5 d6 d7 d8 d9 d10 d11 d12 d13 d14 d15 d16 d17 d18 d19 d20 d21 d22 d23 d24 d25 d26 : D) (k : List D → Res β) : (few [d0, d1, d2, d3, d4, d5, d6, d7, d8, d9, d10, d11, d12, d13, d14, d15, d16, d17, d18, d19, d20, d21, d22, d23, d24, d25, d26]).bind k = k [d0, d1, d2, d3, d4, d5, d6, d7, d8, d9, d10, d11, d12, d13, d14, d15, d16, d17, d18, d19, d20, d21, d22, d23, d24, d25, d26] := by rw [few_ok (by simp), rb_ok]
theorem few28 (d0 d1 d2 d3 d4 d5 d6 d7 d8 d9 d10 d11 d12 d13 d14 d15 d16 d17 d18 d19 d20 d21 d22 d23 d24 d25 d26 d27 : D) (k : List D → Res β) : (few [d0, d1, d2, d3, d4, d5, d6, d7, d8, d9, d10, d11, d12, d13, d14, d15, d16, d17, d18, d19, d20, d21, d22, d23, d24, d25, d26, d27]).bind k = k [d0, d1, d2, d3, d4, d5, d6, d7, d8, d9, d10, d11, d12, d13, d14, d15, d16, d17, d18, d19, d20, d21, d22, d23, d24, d25, d26, d27] := by rw [few_ok (by simp), rb_ok]
theorem few29 (d0 d1 d2 d3 d4 d5 d6 d7 d8 d9 d10 d11 d12 d13 d14 d15 d16 d17 d18 d19 d20 d21 d22 d23 d24 d25 d26 d27 d28 : D) (k : List D → Res β) : (few [d0, d1, d2, d3, d4, d5, d6, d7, d8, d9, d10, d11, d12, d13, d14, d15, d16, d17, d18, d19, d20, d21, d22, d23, d24, d25, d26, d27, d28]).bind k = k [d0, d1, d2, d3, d4, d5, d6, d7, d8, d9, d10, d11, d12, d13, d14, d15, d16, d17, d18, d19, d20, d21, d22, d23, d24, d25, d26, d27, d28] := by rw [few_ok (by simp), rb_ok]
theorem few30 (d0 d1 d2 d3 d4 d5 d6 d7 d8 d9 d10 d11 d12 d13 d14 d15 d16 d17 d18 d19 d20 d21 d22 d23 d24 d25 d26 d27 d28 d29 : D) (k : List D → Res β) : (few [d0, d1, d2, d3, d4, d5, d6, d7, d8, d9, d10, d11, d12, d13, d14, d15, d16, d17, d18, d19, d20, d21, d22, d23, d24, d25, d26, d27, d28, d29]).bind k = k [d0, d1, d2, d3, d4, d5, d6, d7, d8, d9, d10, d11, d12, d13, d14, d15, d16, d17, d18, d19, d20, d21, d22, d23, d24, d25, d26, d27, d28, d29] := by rw [few_ok (by simp), rb_ok]
theorem few31 (d0 d1 d2 d3 d4 d5 d6 d7 d8 d9 d10 d11 d12 d13 d14 d15 d16 d17 d18 d19 d20 d21 d22 d23 d24 d25 d26 d27 d28 d29 d30 : D) (k : List D → Res β) : (few [d0, d1, d2, d3, d4, d5, d6, d7, d8, d9, d10, d11, d12, d13, d14, d15, d16, d17, d18, d19, d20, d21, d22, d23, d24, d25, d26, d27, d28, d29, d30]).bind k = k [d0, d1, d2, d3, d4, d5, d6, d7, d8, d9, d10, d11, d12, d13, d14, d15, d16, d17, d18, d19, d20, d21, d22, d23, d24, d25, d26, d27, d28, d29, d30] := by rw [few_ok (by simp), rb_ok]
theorem few32 (d0 d1 d2 d3 d4 d5 d6 d7 d8 d9 d10 d11 d12 d13 d14 d15 d16 d17 d18 d19 d20 d21 d22 d23 d24 d25 d26 d27 d28 d29 d30 d31 : D) (k : List D → Res β) : (few [d0, d1, d2, d3, d4, d5, d6, d7, d8, d9, d10, d11, d12, d13, d14, d15, d16, d17, d18, d19, d20, d21, d22, d23, d24, d25, d26, d27, d28, d29, d30, d31]).bind k = k [d0, d1, d2, d3, d4, d5, d6, d7, d8, d9, d10, d11, d12, d13, d14, d15, d16, d17, d18, d19, d20, d21, d22, d23, d24, d25, d26, d27, d28, d29, d30, d31] := by rw [few_ok (by simp), rb_ok]
theorem few33 (d0 d1 d2 d3 d4 d5 d6 d7 d8 d9 d10 d11 d12 d13 d14 d15 d16 d17 d18 d19 d20 d21 d22 d23 d24 d25 d26 d27 d28 d29 d30 d31 d32 : D) (k : List D → Res β) : (few [d0, d1, d2, d3, d4, d5, d6, d7, d8, d9, d10, d11, d12, d13, d14, d15, d16, d17, d18, d19, d20, d21, d22, d23, d24, d25, d26, d27, d28, d29, d30, d31, d32]).bind k = k [d0, d1, d2, d3, d4, d5, d6, d7, d8, d9, d10, d11, d12, d13, d14, d15, d16, d17, d18, d19, d20, d21, d22, d23, d24, d25, d26, d27, d28, d29, d30, d31, d32] := by rw [few_ok (by simp), rb_ok]
theorem few34 (d0 d1 d2 d3 d4 d5 d6 d7 d8 d9 d10 d11 d12 d13 d14 d15 d16 d17 d18 d19 d20 d21 d22 d23 d24 d25 d26 d27 d28 d29 d30 d31 d32 d33 : D) (k : List D → Res β) : (few [d0, d1, d2, d3, d4, d5, d6, d7, d8, d9, d10, d11, d12, d13, d14, d15, d16, d17, d18, d19, d20, d21, d22, d23, d24, d25, d26, d27, d28, d29, d30, d31, d32, d33]).bind k = k [d0, d1, d2, d3, d4, d5, d6, d7, d8, d9, d10, d11, d12, d13, d14, d15, d16, d17, d18, d19, d20, d21, d22, d23, d24, d25, d26, d27, d28, d29, d30, d31, d32, d33] := by rw [few_ok (by simp), rb_ok]
theorem few35 (d0 d1 d2 d3 d4 d5 d6 d7 d8 d9 d10 d11 d12 d13 d14 d15 d16 d17 d18 d19 d20 d21 d22 d23 d24 d25 d26 d27 d28 d29 d30 d31 d32 d33 d34 : D) (k : List D → Res β) : (few [d0, d1, d2, d3, d4, d5, d6, d7, d8, d9, d10, d11, d12, d13, d14, d15, d16, d17, d18, d19, d20, d21, d22, d23, d24, d25, d26, d27, d28, d29, d30, d31, d32, d33, d34]).bind k = k [d0, d1, d2, d3, d4, d5, d6, d7, d8, d9, d10, d11, d12, d13, d14, d15, d16, d17, d18, d19, d20, d21, d22, d23, d24, d25, d26, d27, d28, d29, d30, d31, d32, d33, d34] := by rw [few_ok (by simp), rb_ok]
theorem few36 (d0 d1 d2 d3 d4 d5 d6 d7 d8 d9 d10 d11 d12 d13 d14 d15 d16 d17 d18 d19 d20 d21 d22 d23 d24 d25 d26 d27 d28 d29 d30 d31 d32 d33 d34 d35 : D) (k : List D → Res β) : (few [d0, d1, d2, d3, d4, d5, d6, d7, d8, d9, d10, d11, d12, d13, d14, d15, d16, d17, d18, d19, d20, d21, d22, d23, d24, d25, d26, d27, d28, d29, d30, d31, d32, d33, d34, d35]).bind k = k [d0, d1, d2, d3, d4, d5, d6, d7, d8, d9, d10, d11, d12, d13, d14, d15, d16, d17, d18, d19, d20, d21, d22, d23, d24, d25, d26, d27, d28, d29, d30, d31, d32, d33, d34, d35] := by rw [few_ok (by simp), rb_ok]
theorem few37 (d0 d1 d2 d3 d4 d5 d6 d7 d8 d9 d10 d11 d12 d13 d14 d15 d16 d17 d18 d19 d20 d21 d22 d23 d24 d25 d26 d27 d28 d29 d30 d31 d32 d33 d34 d35 d36 : D) (k : List D → Res β) : (few [d0, d1, d2, d3, d4, d5, d6, d7, d8, d9, d10, d11, d12, d13, d14, d15, d16, d17, d18, d19, d20, d21, d22, d23, d24, d25, d26, d27, d28, d29, d30, d31, d32, d33, d34, d35, d36]).bind k = k [d0, d1, d2, d3, d4, d5, d6, d7, d8, d9, d10, d11, d12, d13, d14, d15, d16, d17, d18, d19, d20, d21, d22, d23, d24, d25, d26, d27, d28, d29, d30, d31, d32, d33, d34, d35, d36] := by rw [few_ok (by simp), rb_ok]
theorem few38 (d0 d1 d2 d3 d4 d5 d6 d7 d8 d9 d10 d11 d12 d13 d14 d15 d16 d17 d18 d19 d20 d21 d22 d23 d24 d25 d26 d27 d28 d29 d30 d31 d32 d33 d34 d35 d36 d37 : D) (k : List D → Res β) : (few [d0, d1, d2, d3, d4, d5, d6, d7, d8, d9, d10, d11, d12, d13, d14, d15, d16, d17, d18, d19, d20, d21, d22, d23, d24, d25, d26, d27, d28, d29, d30, d31, d32, d33, d34, d35, d36, d37]).bind k = k [d0, d1, d2, d3, d4, d5, d6, d7, d8, d9, d10, d11, d12, d13, d14, d15, d16, d17, d18, d19, d20, d21, d22, d23, d24, d25, d26, d27, d28, d29, d30, d31, d32, d33, d34, d35, d36, d37] := by rw [few_ok (by simp), rb_ok]
theorem few39 (d0 d1 d2 d3 d4 d5 d6 d7 d8 d9 d10 d11 d12 d13 d14 d15 d16 d17 d18 d19 d20 d21 d22 d23 d24 d25 d26 d27 d28 d29 d30 d31 d32 d33 d34 d35 d36 d37 d38 : D) (k : List D → Res β) : (few [d0, d1, d2, d3, d4, d5, d6, d7, d8, d9, d10, d11, d12, d13, d14, d15, d16, d17, d18, d19, d20, d21, d22, d23, d24, d25, d26, d27, d28, d29, d30, d31, d32, d33, d34, d35, d36, d37, d38]).bind k = k [d0, d1, d2, d3, d4, d5, d6, d7, d8, d9, d10, d11, d12, d13, d14, d15, d16, d17, d18, d19, d20, d21, d22, d23, d24, d25, d26, d27, d28, d29, d30, d31, d32, d33, d34, d35, d36, d37, d38] := by rw [few_ok (by simp), rb_ok]
theorem few40 (d0 d1 d2 d3 d4 d5 d6 d7 d8 d9 d10 d11 d12 d13 d14 d15 d16 d17 d18 d19 d20 d21 d22 d23 d24 d25 d26 d27 d28 d29 d30 d31 d32 d33 d34 d35 d36 d37 d38 d39 : D) (k : List D → Res β) : (few [d0, d1, d2, d3, d4, d5, d6, d7, d8, d9, d10, d11, d12, d13, d14, d15, d16, d17, d18, d19, d20, d21, d22, d23, d24, d25, d26, d27, d28, d29, d30, d31, d32, d33, d34, d35, d36, d37, d38, d39]).bind k = k [d0, d1, d2, d3, d4, d5, d6, d7, d8, d9, d10, d11, d12, d13, d14, d15, d16, d17, d18, d19, d20, d21, d22, d23, d24, d25, d26, d27, d28, d29, d30, d31, d32, d33, d34, d35, d36, d37, d38, d39] := by rw [few_ok (by simp), rb_ok]
end
end VS

set_option Elab.async false
set_option linter.all false
set_option maxRecDepth 100000
set_option maxHeartbeats 4000000
namespace VS
open PySem PySem.Spec PyProof.Rows L2
/-! ### what a computation comes to -/
def Sat {α : Type} (r : Res α) (Φ : α → Prop) : Prop := ∃ a, r = .ok a ∧ Φ a
section
variable {α β : Type} {r : Res α} {f : α → Res β} {Φ Ψ : α → Prop} {Θ : β → Prop}
theorem Sat.ok {a : α} (h : Φ a) : Sat (.ok a) Φ := ⟨a, rfl, h⟩
theorem Sat.bind (h : Sat r Φ) (k : ∀ a, Φ a → Sat (f a) Θ) : Sat (r.bind f) Θ := by
  obtain ⟨a, e, p⟩ := h
  obtain ⟨b, e2, q⟩ := k a p
  exact ⟨b, by rw [e]; exact e2, q⟩
theorem Sat.mono (h : Sat r Φ) (k : ∀ a, Φ a → Ψ a) : Sat r Ψ := let ⟨a, e, p⟩ := h; ⟨a, e, k a p⟩
theorem Sat.eqb {a : α} (e : r = .ok a) (h : Sat (f a) Θ) : Sat (r.bind f) Θ := by rw [e]; exact h
theorem Sat.nx (h : Sat r Φ) : Sat (nxR r) Φ := let ⟨a, e, p⟩ := h; ⟨a, by rw [e]; rfl, p⟩
theorem Sat.of {a : α} (e : r = .ok a) (h : Φ a) : Sat r Φ := ⟨a, e, h⟩
theorem ok_bind {a : α} (e : r = .ok a) : r.bind f = f a := by rw [e]; rfl
theorem nxR_of {a : α} (e : r = .ok a) : nxR r = .ok a := by rw [e]; rfl
theorem Sat.bIf {c : Bool} {a b : Res α} (h1 : c = true → Sat a Φ) (h2 : c = false → Sat b Φ) : Sat (bIf c a b) Φ := by
  cases c with
  | true => exact h1 rfl
  | false => exact h2 rfl
theorem bIf_dec {p : Prop} [Decidable p] {a b : Res α} : bIf (decide p) a b = if p then a else b := by
  unfold bIf
  by_cases h : p <;> simp [h]
theorem bIf_ok (c : Bool) (a b : α) : bIf c (.ok a) (.ok b) = .ok (if c then a else b) := by cases c <;> rfl
theorem bIf_not (c : Bool) (a b : Res α) : bIf (!c) a b = bIf c b a := by cases c <;> rfl
end
/-! ### walks -/
theorem le_size {n : Nat} (h : n ≤ 16777216) : n ≤ sizeLine := by rw [sizeLine_eq]; exact h
section
variable {α β S R : Type} {emb : α → D} {emb' : β → D}
theorem lcGoR_map {f : D → Res D} {g : α → β} : ∀ {xs : List α}, (∀ x ∈ xs, f (emb x) = .ok (emb' (g x))) → lcGoR f (xs.map emb) = .ok ((xs.map g).map emb')
  | [], _ => rfl
  | x :: xs, h => by
    show ((nxR (f (emb x))).bind fun y => (lcGoR f (xs.map emb)).bind fun ys => .ok (y :: ys)) = _
    rw [h x List.mem_cons_self, nxR_ok, rb_ok, lcGoR_map fun y m => h y (List.mem_cons_of_mem _ m), rb_ok]
    rfl
theorem lcR_map {f : D → Res D} {g : α → β} {xs : List α} (hl : xs.length ≤ 16777216) (h : ∀ x ∈ xs, f (emb x) = .ok (emb' (g x))) : lcR f (xs.map emb) = .ok ((xs.map g).map emb') := by
  unfold lcR
  rw [if_pos (by rw [List.length_map]; exact le_size hl), lcGoR_map h]
theorem lcR_any {f : D → Res D} {g : D → D} {ds : List D} (hl : ds.length ≤ 16777216) (h : ∀ x ∈ ds, f x = .ok (g x)) : lcR f ds = .ok (ds.map g) := by
  have := lcR_map (emb := id) (emb' := id) (g := g) (xs := ds) hl h
  simpa using this
theorem lcGoTR_map {t : D → Res Bool} {p : α → Bool} {f : D → Res D} {g : α → β} : ∀ {xs : List α}, (∀ x ∈ xs, t (emb x) = .ok (p x)) → (∀ x ∈ xs, p x = true → f (emb x) = .ok (emb' (g x))) → lcGoTR t f (xs.map emb) = .ok (((xs.filter p).map g).map emb')
  | [], _, _ => rfl
  | x :: xs, ht, h => by
    show ((nxR (t (emb x))).bind fun b => bIf b ((nxR (f (emb x))).bind fun y => (lcGoTR t f (xs.map emb)).bind fun ys => .ok (y :: ys)) (lcGoTR t f (xs.map emb))) = _
    rw [ht x List.mem_cons_self, nxR_ok, rb_ok, lcGoTR_map (fun y m => ht y (List.mem_cons_of_mem _ m)) fun y m => h y (List.mem_cons_of_mem _ m)]
    cases hp : p x with
    | false => rw [bIf_f, List.filter_cons_of_neg (by rw [hp]; exact Bool.false_ne_true)]
    | true => rw [bIf_t, h x List.mem_cons_self hp, nxR_ok, rb_ok, rb_ok, List.filter_cons_of_pos hp]; rfl
theorem lcTR_map {t : D → Res Bool} {p : α → Bool} {f : D → Res D} {g : α → β} {xs : List α} (hl : xs.length ≤ 16777216) (ht : ∀ x ∈ xs, t (emb x) = .ok (p x)) (h : ∀ x ∈ xs, p x = true → f (emb x) = .ok (emb' (g x))) : lcTR t f (xs.map emb) = .ok (((xs.filter p).map g).map emb') := by
  unfold lcTR
  rw [if_pos (by rw [List.length_map]; exact le_size hl), lcGoTR_map ht h]
theorem lcSR_sat {f : D → S → Res (D × S)} {I : S → Prop} {P : D → Prop} {ds : List D} {s : S} (hl : ds.length ≤ 16777216) (h : ∀ d ∈ ds, ∀ s, I s → Sat (f d s) fun p => P p.1 ∧ I p.2) (i : I s) : Sat (lcSR f ds s) fun p => (∀ d ∈ p.1, P d) ∧ p.1.length = ds.length ∧ I p.2 := by
  have key : ∀ (ds : List D) (s : S), (∀ d ∈ ds, ∀ s, I s → Sat (f d s) fun p => P p.1 ∧ I p.2) → I s → Sat (lcGoSR f ds s) fun p => (∀ d ∈ p.1, P d) ∧ p.1.length = ds.length ∧ I p.2 := by
    intro ds
    induction ds with
    | nil => exact fun s _ i => ⟨([], s), rfl, (fun d m => by cases m), rfl, i⟩
    | cons d ds ih =>
      intro s h i
      obtain ⟨p, e, h1, h2⟩ := h d List.mem_cons_self s i
      obtain ⟨q, e2, h3, h4, h5⟩ := ih p.2 (fun d m => h d (List.mem_cons_of_mem _ m)) h2
      refine ⟨(p.1 :: q.1, q.2), ?_, fun d m => ?_, by simp [h4], h5⟩
      · show ((nxR (f d s)).bind fun y => (lcGoSR f ds y.2).bind fun ys => .ok (y.1 :: ys.1, ys.2)) = _
        rw [e, nxR_ok, rb_ok, e2, rb_ok]
      · rcases List.mem_cons.mp m with rfl | m
        · exact h1
        · exact h3 d m
  obtain ⟨p, e, q⟩ := key ds s h i
  exact ⟨p, by unfold lcSR; rw [if_pos (le_size hl), e], q⟩
theorem lcOR_sat {f : D → S → Res (Option D × S)} {I : S → Prop} {P : List D → List D → Prop} {ds : List D} {s : S} (hl : ds.length ≤ 16777216) (h0 : P [] [])
    (h : ∀ d ∈ ds, ∀ s, I s → Sat (f d s) fun p => I p.2 ∧ ∀ ds ys, P ds ys → P (d :: ds) (consO p.1 ys)) (i : I s) : Sat (lcOR f ds s) fun p => P ds p.1 ∧ I p.2 := by
  have key : ∀ (ds : List D) (s : S), (∀ d ∈ ds, ∀ s, I s → Sat (f d s) fun p => I p.2 ∧ ∀ ds ys, P ds ys → P (d :: ds) (consO p.1 ys)) → I s → Sat (lcGoOR f ds s) fun p => P ds p.1 ∧ I p.2 := by
    intro ds
    induction ds with
    | nil => exact fun s _ i => ⟨_, rfl, h0, i⟩
    | cons d ds ih =>
      intro s h i
      obtain ⟨p, e, h1, h2⟩ := h d List.mem_cons_self s i
      obtain ⟨q, e2, h3, h4⟩ := ih p.2 (fun d m => h d (List.mem_cons_of_mem _ m)) h1
      refine ⟨(consO p.1 q.1, q.2), ?_, h2 _ _ h3, h4⟩
      show ((nxR (f d s)).bind fun y => (lcGoOR f ds y.2).bind fun ys => .ok (consO y.1 ys.1, ys.2)) = _
      rw [e, nxR_ok, rb_ok, e2, rb_ok]
  obtain ⟨p, e, q⟩ := key ds s h i
  exact ⟨p, by unfold lcOR; rw [if_pos (le_size hl), e], q⟩
theorem exists_map {P : α → Prop} : ∀ {ds : List D}, (∀ d ∈ ds, ∃ x, d = emb x ∧ P x) → ∃ xs : List α, ds = xs.map emb ∧ ∀ x ∈ xs, P x
  | [], _ => ⟨[], rfl, fun _ m => nomatch m⟩
  | d :: ds, h => by
    obtain ⟨x, rfl, p⟩ := h d List.mem_cons_self
    obtain ⟨xs, rfl, q⟩ := exists_map fun d m => h d (List.mem_cons_of_mem _ m)
    exact ⟨x :: xs, rfl, fun y m => (List.mem_cons.mp m).elim (fun e => e ▸ p) (q y)⟩
theorem foldR_map {f : D → S → Res S} {es : β → S} {g : β → α → β} {J : β → Prop} : ∀ {xs : List α} {s : β}, (∀ x ∈ xs, ∀ s, J s → f (emb x) (es s) = .ok (es (g s x)) ∧ J (g s x)) → J s → foldR f (xs.map emb) (es s) = .ok (es (xs.foldl g s)) ∧ J (xs.foldl g s)
  | [], s, _, j => ⟨rfl, j⟩
  | x :: xs, s, h, j => by
    obtain ⟨e, j'⟩ := h x List.mem_cons_self s j
    have := foldR_map (fun y m => h y (List.mem_cons_of_mem _ m)) j'
    refine ⟨?_, this.2⟩
    show ((f (emb x) (es s)).bind fun s' => foldR f (xs.map emb) s') = _
    rw [e, rb_ok, this.1]; rfl
theorem foldR_sat {f : D → S → Res S} {I : List D → S → Prop} : ∀ {ds : List D} {s : S}, (∀ d ds s, I (d :: ds) s → Sat (f d s) (I ds)) → I ds s → Sat (foldR f ds s) (I [])
  | [], s, _, i => ⟨s, rfl, i⟩
  | d :: ds, s, h, i => Sat.bind (h d ds s i) fun s' i' => foldR_sat h i'
theorem forR_nx {f : D → S → Res (Lp S R)} {I : List D → S → Prop} : ∀ {ds : List D} {s : S}, (∀ d ds s, I (d :: ds) s → Sat (f d s) fun o => ∃ s', o = .nx s' ∧ I ds s') → I ds s → Sat (forR f ds s) fun o => ∃ s', o = .nx s' ∧ I [] s'
  | [], s, _, i => ⟨_, rfl, s, rfl, i⟩
  | d :: ds, s, h, i => Sat.bind (h d ds s i) fun o ⟨s', e, i'⟩ => by
    subst e
    exact forR_nx h i'
/-- all turns run through where what is asked holds of each -/
theorem forR_all {f : D → S → Res (Lp S R)} {I : S → Prop} {ds : List D} {s : S} (h : ∀ d ∈ ds, ∀ s, I s → Sat (f d s) fun o => ∃ s', o = .nx s' ∧ I s') (i : I s) : Sat (forR f ds s) fun o => ∃ s', o = .nx s' ∧ I s' := by
  refine Sat.mono (forR_nx (I := fun rest s => (∀ d ∈ rest, d ∈ ds) ∧ I s) (fun d rest s hi => ?_) ⟨fun _ m => m, i⟩) fun o ⟨s', e, hi⟩ => ⟨s', e, hi.2⟩
  exact (h d (hi.1 d List.mem_cons_self) s hi.2).mono fun o ⟨s', e, i'⟩ => ⟨s', e, fun d m => hi.1 d (List.mem_cons_of_mem _ m), i'⟩
theorem forR_unit {f : D → Unit → Res (Lp Unit R)} {ds : List D} (h : ∀ d ∈ ds, f d () = .ok (.nx ())) : forR f ds () = .ok (.nx ()) := by
  obtain ⟨o, e, s, rfl, _⟩ := forR_all (I := fun _ => True) (s := ()) (f := f) (ds := ds) (fun d m s _ => ⟨_, h d m, _, rfl, trivial⟩) trivial
  exact e
theorem whR_sat {t : S → Res Bool} {f : S → Res S} {I : S → Prop} {μ : S → Nat} (h : ∀ s, I s → Sat (t s) fun c => c = true → Sat (f s) fun s' => I s' ∧ μ s' < μ s) : ∀ {n : Nat} {s : S}, I s → μ s < n → Sat (whR t f n s) fun s' => I s' ∧ t s' = .ok false
  | 0, s, _, l => absurd l (Nat.not_lt_zero _)
  | n + 1, s, i, l => by
    obtain ⟨c, e, k⟩ := h s i
    show Sat ((t s).bind fun c => bIf c ((f s).bind fun s' => whR t f n s') (.ok s)) _
    rw [e, rb_ok]
    cases c with
    | false => exact ⟨s, rfl, i, e⟩
    | true =>
      obtain ⟨s', e2, i', l'⟩ := k rfl
      rw [bIf_t, e2, rb_ok]
      exact whR_sat h i' (by omega)
end
/-! ### values -/
section
variable {i j : Int} {ds es : List D} {d e : D}
theorem dIx_l {n : Nat} {x : D} (h : ds[n]? = some x) : dIx (.list ds) (.int n) = .ok x := by
  have hl := (List.getElem?_eq_some_iff.mp h).1
  refine ix_l ?_
  unfold atI ixN
  rw [if_pos (by omega), if_pos (by omega)]
  simpa using h
theorem dIx_t {n : Nat} {x : D} (h : ds[n]? = some x) : dIx (.tuple ds) (.int n) = .ok x := by
  have hl := (List.getElem?_eq_some_iff.mp h).1
  refine ix_t ?_
  unfold atI ixN
  rw [if_pos (by omega), if_pos (by omega)]
  simpa using h
theorem dIx_l0 {x : D} : dIx (.list (x :: ds)) (.int 0) = .ok x := dIx_l (n := 0) rfl
theorem dIx_t0 {x : D} : dIx (.tuple (x :: ds)) (.int 0) = .ok x := dIx_t (n := 0) rfl
theorem dIx_l1 {x y : D} : dIx (.list (x :: y :: ds)) (.int 1) = .ok y := dIx_l (n := 1) rfl
theorem dIx_t1 {x y : D} : dIx (.tuple (x :: y :: ds)) (.int 1) = .ok y := dIx_t (n := 1) rfl
theorem dIx_sat {P : D → Prop} (h0 : 0 ≤ i) (h1 : i < ds.length) (h : ∀ d ∈ ds, P d) : Sat (dIx (.list ds) (.int i)) P := by
  obtain ⟨n, rfl⟩ := Int.eq_ofNat_of_zero_le h0
  have hn : n < ds.length := by omega
  exact ⟨ds[n], dIx_l (by simp [hn]), h _ (List.getElem_mem hn)⟩
theorem dIx_ints {t : List Int} (h0 : 0 ≤ i) (h1 : i < t.length) : dIx (dTup t) (.int i) = .ok (.int (t.getD i.toNat 0)) := ix_t (at_ints h0 h1)
theorem appR_ok (h : ds.length < 16777216) : appR ds d = .ok (ds ++ [d]) := if_pos (by rw [sizeLine_eq]; exact h)
theorem extR_ok (h : ds.length + es.length ≤ 16777216) : extR ds (.list es) = .ok (ds ++ es) := if_pos (le_size h)
theorem setR_ok {n : Nat} (h : n < ds.length) : setR ds (.int n) d = .ok (ds.set n d) := by
  have e : ixN ds.length (n : Int) = some n := by
    unfold ixN
    rw [if_pos (by omega), if_pos (by omega)]; simp
  simp only [setR, e]
theorem addT_ok (h : ds.length + es.length ≤ 16777216) : dAddL (.tuple ds) (.tuple es) = .ok (.tuple (ds ++ es)) := if_pos (le_size h)
theorem addL_ok (h : ds.length + es.length ≤ 16777216) : dAddL (.list ds) (.list es) = .ok (.list (ds ++ es)) := by
  show ((if ds.length + es.length ≤ sizeLine then Res.ok (ds ++ es) else .bad).bind fun ds => Res.ok (PyData.list ds)) = _
  rw [if_pos (le_size h), rb_ok]
theorem gRg_ok {a b : Int} (h : -(2 ^ 62) ≤ a ∧ a < 2 ^ 62 ∧ -(2 ^ 62) ≤ b ∧ b < 2 ^ 62) : gRg (a, b) = .ok ((List.range (b - a).toNat).map fun k : Nat => .int (a + k)) := if_pos h
theorem gRg_nat {n : Nat} (h : n < 2 ^ 62) : gRg (0, (n : Int)) = .ok ((List.range n).map fun k : Nat => .int k) := by
  rw [gRg_ok (by omega)]
  simp
theorem gZip_ll : gZip (.list ds) (.list es) = .ok (zipD ds es) := rfl
theorem gZip_tt : gZip (.tuple ds) (.tuple es) = .ok (zipD ds es) := rfl
theorem zipD_map {α β : Type} {f : α → D} {g : β → D} : ∀ {xs : List α} {ys : List β}, zipD (xs.map f) (ys.map g) = (xs.zip ys).map fun p => .tuple [f p.1, g p.2]
  | [], _ => rfl
  | _ :: _, [] => rfl
  | x :: xs, y :: ys => by
    show PyData.tuple [f x, g y] :: zipD (xs.map f) (ys.map g) = _
    rw [zipD_map]; rfl
theorem gBools_ok (p : List Bool → Bool) (bs : List Bool) : gBools p (.list (bs.map .bool)) = .ok (.bool (p bs)) := by
  have e : boolsOf (bs.map PyData.bool) = some bs := by
    induction bs with
    | nil => rfl
    | cons b bs ih => simp only [List.map_cons, boolsOf, ih, Option.map_some]
  simp only [gBools, e]
/-- all(..), any(..) of a comprehension -/
theorem allR {α : Type} {emb : α → D} {f : D → Res D} {p : α → Bool} {xs : List α} (hl : xs.length ≤ 16777216) (h : ∀ x ∈ xs, f (emb x) = .ok (.bool (p x))) : ((lcR f (xs.map emb)).bind fun l => gBools (fun bs => bs.all id) (.list l)) = .ok (.bool (xs.all p)) := by
  rw [lcR_map (emb' := PyData.bool) (g := p) hl h, rb_ok, gBools_ok]
  congr 2
  induction xs with
  | nil => rfl
  | cons x xs ih => simp
theorem anyR {α : Type} {emb : α → D} {f : D → Res D} {p : α → Bool} {xs : List α} (hl : xs.length ≤ 16777216) (h : ∀ x ∈ xs, f (emb x) = .ok (.bool (p x))) : ((lcR f (xs.map emb)).bind fun l => gBools (fun bs => bs.any id) (.list l)) = .ok (.bool (xs.any p)) := by
  rw [lcR_map (emb' := PyData.bool) (g := p) hl h, rb_ok, gBools_ok]
  congr 2
  induction xs with
  | nil => rfl
  | cons x xs ih => simp
theorem allRk {α β : Type} {emb : α → D} {f : D → Res D} {p : α → Bool} {xs : List α} {k : D → Res β} (hl : xs.length ≤ 16777216) (h : ∀ x ∈ xs, f (emb x) = .ok (.bool (p x))) : ((lcR f (xs.map emb)).bind fun l => (gBools (fun bs => bs.all id) (.list l)).bind k) = k (.bool (xs.all p)) := by
  rw [← Res.assoc, allR hl h, rb_ok]
theorem anyRk {α β : Type} {emb : α → D} {f : D → Res D} {p : α → Bool} {xs : List α} {k : D → Res β} (hl : xs.length ≤ 16777216) (h : ∀ x ∈ xs, f (emb x) = .ok (.bool (p x))) : ((lcR f (xs.map emb)).bind fun l => (gBools (fun bs => bs.any id) (.list l)).bind k) = k (.bool (xs.any p)) := by
  rw [← Res.assoc, anyR hl h, rb_ok]
theorem gRgL_nat {a : Int} {n : Nat} (h : n ≤ 1000) (ha : -1000 ≤ a ∧ a ≤ 1000) : gRgL (a, a + n) = .ok ((List.range n).map fun k : Nat => .int (a + k)) := by
  have e : RgOk a (a + n) := by unfold RgOk; omega
  show (if RgOk a (a + n) then _ else _) = _
  rw [if_pos e]
  unfold rgD
  rw [show (a + (n : Int) - a).toNat = n by omega]
theorem gRgT_nat {a : Int} {n : Nat} (h : n ≤ 1000) (ha : -1000 ≤ a ∧ a ≤ 1000) : gRgT (a, a + n) = .ok (.tuple ((List.range n).map fun k : Nat => .int (a + k))) := by
  have e : RgOk a (a + n) := by unfold RgOk; omega
  show (if RgOk a (a + n) then _ else _) = _
  rw [if_pos e]
  unfold rgD
  rw [show (a + (n : Int) - a).toNat = n by omega]
theorem i_mul1 (i : Int) : dMul (.int i) (.int 1) = .ok (.int i) := by rw [i_mul (Or.inr ⟨by decide, by decide⟩), Int.mul_one]
theorem i_mulm (i : Int) : dMul (.int i) (.int (-1)) = .ok (.int (-i)) := by rw [i_mul (Or.inr ⟨by decide, by decide⟩)]; congr 2; omega
end
end VS

set_option Elab.async false
set_option linter.all false
set_option maxRecDepth 100000
set_option maxHeartbeats 4000000
namespace LW
open PySem PySem.Spec PyProof.Rows L2 VS
def fuel : Nat := 100000
def m_is_whole_A1 : M D :=
  (eAndV (e1 (gIsi "int") (eNm 0)) (eNotV (e1 (gIsi "bool") (eNm 0))))
def m_is_whole : M Fl :=
  (sRetC false m_is_whole_A1)
def f_is_whole : List D → Res D := runB 1 m_is_whole
def g_is_whole_A1 (v0 : D) : Res (D) :=
  bIf (isTy "int" v0) (.ok (.bool (!(isTy "bool" v0)))) (.ok (.bool false))
theorem s_is_whole_A1 {β : Type} {v0 : D} (k : D → En → Res β) : cps m_is_whole_A1 [.val v0] k = (g_is_whole_A1 v0).bind fun y => k y [.val v0] := by
  unfold m_is_whole_A1 g_is_whole_A1
  simp only [↓c_fl, ↓c_pd, ↓c_pl, ↓c_pb, ↓c_po, ↓c_yes, ↓sqC_nx, ↓sqC_rt, ↓sqC_ro, ↓p_asB, ↓p_asI, ↓p_asOI, ↓p_asSl, ↓p_asSt, ↓p_lenl, ↓p_lent, ↓p_tupl, ↓p_listl, ↓p_listt, ↓p_neg, ↓p_isi, ↓p_isis, ↓p_isN, ↓p_notN, ↓p_int, ↓Res.assoc, ↓bIf_bind, ↓lpK_bind, ↓rb_ok, ↓rb_exc, ↓rb_bad, ↓lpK_nx, ↓lpK_rt, ↓c_e1, ↓c_andV, ↓c_eB, ↓c_notV, ↓f0_nmv, ↓f0_atv]
def g_is_whole (v0 : D) : Res (D) :=
  g_is_whole_A1 v0
theorem e_is_whole (v0 : D) : f_is_whole [v0] = g_is_whole v0 := by
  refine (runB_cps 1 m_is_whole [v0]).trans ?_
  show cps m_is_whole [.val v0] kB = _
  unfold m_is_whole g_is_whole
  simp only [↓c_fl, ↓c_pd, ↓c_pl, ↓c_pb, ↓c_po, ↓c_yes, ↓sqC_nx, ↓sqC_rt, ↓sqC_ro, ↓p_asB, ↓p_asI, ↓p_asOI, ↓p_asSl, ↓p_asSt, ↓p_lenl, ↓p_lent, ↓p_tupl, ↓p_listl, ↓p_listt, ↓p_neg, ↓p_isi, ↓p_isis, ↓p_isN, ↓p_notN, ↓p_int, ↓Res.assoc, ↓bIf_bind, ↓lpK_bind, ↓rb_ok, ↓rb_exc, ↓rb_bad, ↓lpK_nx, ↓lpK_rt, ↓c_retC, ↓s_is_whole_A1, ↓Res.bind_ok, ↓kB_rt, ↓kB_nx, ↓kO_ro, ↓kR_rt, ↓kR_rtC, ↓kR_nx]

def m_is_between_A1 : M D :=
  (e3 dLe dLe (eNm 1) (eNm 0) (eNm 2))
def m_is_between_A2 : M D :=
  (eAndV (eCall f_is_whole (eCons (eVar 0) (pure []))) m_is_between_A1)
def m_is_between : M Fl :=
  (sRetC false m_is_between_A2)
def f_is_between : List D → Res D := runB 3 m_is_between
def g_is_between_A1 (v0 : D) (v1 : D) (v2 : D) : Res (D) :=
  (dLe v1 v0).bind fun x3 => (asB x3).bind fun x4 => bIf x4 ((dLe v0 v2).bind fun x5 => .ok x5) (.ok (.bool false))
theorem s_is_between_A1 {β : Type} {v0 : D} {v1 : D} {v2 : D} (k : D → En → Res β) : cps m_is_between_A1 [.val v0, .val v1, .val v2] k = (g_is_between_A1 v0 v1 v2).bind fun y => k y [.val v0, .val v1, .val v2] := by
  unfold m_is_between_A1 g_is_between_A1
  simp only [↓c_fl, ↓c_pd, ↓c_pl, ↓c_pb, ↓c_po, ↓c_yes, ↓sqC_nx, ↓sqC_rt, ↓sqC_ro, ↓p_asB, ↓p_asI, ↓p_asOI, ↓p_asSl, ↓p_asSt, ↓p_lenl, ↓p_lent, ↓p_tupl, ↓p_listl, ↓p_listt, ↓p_neg, ↓p_isi, ↓p_isis, ↓p_isN, ↓p_notN, ↓p_int, ↓Res.assoc, ↓bIf_bind, ↓lpK_bind, ↓rb_ok, ↓rb_exc, ↓rb_bad, ↓lpK_nx, ↓lpK_rt, ↓c_e3, ↓f0_nmv, ↓f0_atv, ↓f1_nmv, ↓f1_atv, ↓f2_nmv, ↓f2_atv]
def g_is_between_A2 (v0 : D) (v1 : D) (v2 : D) : Res (D) :=
  (g_is_whole v0).bind fun x1 => (asB x1).bind fun x2 => bIf x2 ((g_is_between_A1 v0 v1 v2).bind fun x6 => .ok x6) (.ok (.bool false))
theorem s_is_between_A2 {β : Type} {v0 : D} {v1 : D} {v2 : D} (k : D → En → Res β) : cps m_is_between_A2 [.val v0, .val v1, .val v2] k = (g_is_between_A2 v0 v1 v2).bind fun y => k y [.val v0, .val v1, .val v2] := by
  unfold m_is_between_A2 g_is_between_A2
  simp only [↓c_fl, ↓c_pd, ↓c_pl, ↓c_pb, ↓c_po, ↓c_yes, ↓sqC_nx, ↓sqC_rt, ↓sqC_ro, ↓p_asB, ↓p_asI, ↓p_asOI, ↓p_asSl, ↓p_asSt, ↓p_lenl, ↓p_lent, ↓p_tupl, ↓p_listl, ↓p_listt, ↓p_neg, ↓p_isi, ↓p_isis, ↓p_isN, ↓p_notN, ↓p_int, ↓Res.assoc, ↓bIf_bind, ↓lpK_bind, ↓rb_ok, ↓rb_exc, ↓rb_bad, ↓lpK_nx, ↓lpK_rt, ↓c_andV, ↓c_eB, ↓c_call, ↓c_cons, ↓f0_vrv, ↓s_is_between_A1, ↓e_is_whole]
def g_is_between (v0 : D) (v1 : D) (v2 : D) : Res (D) :=
  g_is_between_A2 v0 v1 v2
theorem e_is_between (v0 : D) (v1 : D) (v2 : D) : f_is_between [v0, v1, v2] = g_is_between v0 v1 v2 := by
  refine (runB_cps 3 m_is_between [v0, v1, v2]).trans ?_
  show cps m_is_between [.val v0, .val v1, .val v2] kB = _
  unfold m_is_between g_is_between
  simp only [↓c_fl, ↓c_pd, ↓c_pl, ↓c_pb, ↓c_po, ↓c_yes, ↓sqC_nx, ↓sqC_rt, ↓sqC_ro, ↓p_asB, ↓p_asI, ↓p_asOI, ↓p_asSl, ↓p_asSt, ↓p_lenl, ↓p_lent, ↓p_tupl, ↓p_listl, ↓p_listt, ↓p_neg, ↓p_isi, ↓p_isis, ↓p_isN, ↓p_notN, ↓p_int, ↓Res.assoc, ↓bIf_bind, ↓lpK_bind, ↓rb_ok, ↓rb_exc, ↓rb_bad, ↓lpK_nx, ↓lpK_rt, ↓c_retC, ↓s_is_between_A2, ↓Res.bind_ok, ↓kB_rt, ↓kB_nx, ↓kO_ro, ↓kR_rt, ↓kR_rtC, ↓kR_nx]

def m_is_clause_A1 : M Bool :=
  (eOr (eNot (eB (e1 (gIsi "tuple") (eNm 1)))) (eB (e2 dEq (eNm 1) (eVl (eTup (pure []))))))
def m_is_clause_A2 : M D :=
  (eAndV (eCall f_is_between (eCons (eVar 3) (eCons (e1 dNeg (eNm 0)) (eCons (eVar 0) (pure []))))) (e2 dNe (eNm 3) (eVl (pure (.int 0)))))
def m_is_clause_C1 : M D :=
  m_is_clause_A2
def m_is_clause_C2 : M D :=
  (e1 gAbs (eNm 3))
def m_is_clause_C3 : M D :=
  (e2 dLt (eNm 4) (eNm 5))
def m_is_clause : M Fl :=
  (sSeq (sIf m_is_clause_A1 (sRetC false (pure (.bool false))) (pure .nx))
  (sSeq (sIf (eNot (eB (e1 (gBools fun bs => bs.all id) (eVl (eL (eLc [3] ((eVar 1) >>= fun d => M.lift (asS d)) (setV 3) mYes m_is_clause_C1)))))) (sRetC false (pure (.bool false))) (pure .nx))
  (sSeq (sSetO 2 (eLc [3] ((eVar 1) >>= fun d => M.lift (asS d)) (setV 3) mYes m_is_clause_C2))
  (sPre [2] [] (sRetC false (e1 (gBools fun bs => bs.all id) (eVl (eL (eLc [4, 5] ((eVar 2) >>= fun d => (eSl dSl (eNm 2) (ePart (eVl (pure (.int 1)))) (pure none)) >>= fun e => M.lift (gZip d e)) (bdT [4, 5]) mYes m_is_clause_C3)))))))))
def f_is_clause : List D → Res D := runB 6 m_is_clause
def g_is_clause_A1 (v1 : D) : Res (Bool) :=
  bIf (!(isTy "tuple" v1)) (.ok true) ((dEq v1 (.tuple [])).bind fun x1 => (asB x1).bind fun x2 => .ok x2)
theorem s_is_clause_A1 {β : Type} {v0 : D} {v1 : D} (k : Bool → En → Res β) : cps m_is_clause_A1 [.val v0, .val v1, .emp, .emp, .emp, .emp] k = (g_is_clause_A1 v1).bind fun y => k y [.val v0, .val v1, .emp, .emp, .emp, .emp] := by
  unfold m_is_clause_A1 g_is_clause_A1
  simp only [↓c_fl, ↓c_pd, ↓c_pl, ↓c_pb, ↓c_po, ↓c_yes, ↓sqC_nx, ↓sqC_rt, ↓sqC_ro, ↓p_asB, ↓p_asI, ↓p_asOI, ↓p_asSl, ↓p_asSt, ↓p_lenl, ↓p_lent, ↓p_tupl, ↓p_listl, ↓p_listt, ↓p_neg, ↓p_isi, ↓p_isis, ↓p_isN, ↓p_notN, ↓p_int, ↓Res.assoc, ↓bIf_bind, ↓lpK_bind, ↓rb_ok, ↓rb_exc, ↓rb_bad, ↓lpK_nx, ↓lpK_rt, ↓c_e1, ↓c_e2, ↓c_eB, ↓c_not, ↓c_or, ↓c_tup, ↓c_vl, ↓f1_nmv, ↓f1_atv, ↓few0]
def g_is_clause_A2 (v0 : D) (v3 : D) : Res (D) :=
  (dNeg v0).bind fun x5 => (g_is_between v3 x5 v0).bind fun x6 => (asB x6).bind fun x7 => bIf x7 ((dNe v3 (.int 0)).bind fun x8 => .ok x8) (.ok (.bool false))
theorem s_is_clause_A2 {β : Type} {v0 : D} {v1 : D} {v3 : D} (k : D → En → Res β) : cps m_is_clause_A2 [.val v0, .val v1, .emp, .val v3, .emp, .emp] k = (g_is_clause_A2 v0 v3).bind fun y => k y [.val v0, .val v1, .emp, .val v3, .emp, .emp] := by
  unfold m_is_clause_A2 g_is_clause_A2
  simp only [↓c_fl, ↓c_pd, ↓c_pl, ↓c_pb, ↓c_po, ↓c_yes, ↓sqC_nx, ↓sqC_rt, ↓sqC_ro, ↓p_asB, ↓p_asI, ↓p_asOI, ↓p_asSl, ↓p_asSt, ↓p_lenl, ↓p_lent, ↓p_tupl, ↓p_listl, ↓p_listt, ↓p_neg, ↓p_isi, ↓p_isis, ↓p_isN, ↓p_notN, ↓p_int, ↓Res.assoc, ↓bIf_bind, ↓lpK_bind, ↓rb_ok, ↓rb_exc, ↓rb_bad, ↓lpK_nx, ↓lpK_rt, ↓c_e1, ↓c_e2, ↓c_andV, ↓c_eB, ↓c_call, ↓c_cons, ↓c_vl, ↓f0_nmv, ↓f0_atv, ↓f3_nmv, ↓f3_atv, ↓f0_vrv, ↓f3_vrv, ↓e_is_between]
def g_is_clause_C1 (v0 : D) (d : D) : Res D :=
  (g_is_clause_A2 v0 d).bind fun x9 => .ok x9
theorem s_is_clause_C1 {β : Type} {v0 : D} {v1 : D} {ds : List D} (k : List D → En → Res β) : cps (lcIn [3] (setV 3) mYes m_is_clause_C1 ds) [.val v0, .val v1, .emp, .emp, .emp, .emp] k = (lcR (g_is_clause_C1 v0) ds).bind fun l => k l [.val v0, .val v1, .emp, .emp, .emp, .emp] :=
  c_lcR (env0 := [.val v0, .val v1, .emp, .emp, .emp, .emp]) rfl rfl rfl (fun _ _ _ => setV_exc) (by
    intro d γ k
    unfold m_is_clause_C1 g_is_clause_C1
    simp only [↓c_fl, ↓c_pd, ↓c_pl, ↓c_pb, ↓c_po, ↓c_yes, ↓sqC_nx, ↓sqC_rt, ↓sqC_ro, ↓p_asB, ↓p_asI, ↓p_asOI, ↓p_asSl, ↓p_asSt, ↓p_lenl, ↓p_lent, ↓p_tupl, ↓p_listl, ↓p_listt, ↓p_neg, ↓p_isi, ↓p_isis, ↓p_isN, ↓p_notN, ↓p_int, ↓Res.assoc, ↓bIf_bind, ↓lpK_bind, ↓rb_ok, ↓rb_exc, ↓rb_bad, ↓lpK_nx, ↓lpK_rt, ↓f3_stV, ↓s_is_clause_A2, wipeE_n, wipeE_c, List.set_cons_zero, List.set_cons_succ]) k
def g_is_clause_C2  (d : D) : Res D :=
  (gAbs d).bind fun x14 => .ok x14
theorem s_is_clause_C2 {β : Type} {v0 : D} {v1 : D} {ds : List D} (k : List D → En → Res β) : cps (lcIn [3] (setV 3) mYes m_is_clause_C2 ds) [.val v0, .val v1, .emp, .emp, .emp, .emp] k = (lcR (g_is_clause_C2 ) ds).bind fun l => k l [.val v0, .val v1, .emp, .emp, .emp, .emp] :=
  c_lcR (env0 := [.val v0, .val v1, .emp, .emp, .emp, .emp]) rfl rfl rfl (fun _ _ _ => setV_exc) (by
    intro d γ k
    unfold m_is_clause_C2 g_is_clause_C2
    simp only [↓c_fl, ↓c_pd, ↓c_pl, ↓c_pb, ↓c_po, ↓c_yes, ↓sqC_nx, ↓sqC_rt, ↓sqC_ro, ↓p_asB, ↓p_asI, ↓p_asOI, ↓p_asSl, ↓p_asSt, ↓p_lenl, ↓p_lent, ↓p_tupl, ↓p_listl, ↓p_listt, ↓p_neg, ↓p_isi, ↓p_isis, ↓p_isN, ↓p_notN, ↓p_int, ↓Res.assoc, ↓bIf_bind, ↓lpK_bind, ↓rb_ok, ↓rb_exc, ↓rb_bad, ↓lpK_nx, ↓lpK_rt, ↓c_e1, ↓f3_nmv, ↓f3_atv, ↓f3_stV, wipeE_n, wipeE_c, List.set_cons_zero, List.set_cons_succ]) k
def g_is_clause_C3  (d : D) : Res D :=
  (asT2 d).bind fun x18 => (dLt x18.1 x18.2).bind fun x19 => .ok x19
theorem s_is_clause_C3 {β : Type} {v0 : D} {v1 : D} {v2 : D} {ds : List D} (k : List D → En → Res β) : cps (lcIn [4, 5] (bdT [4, 5]) mYes m_is_clause_C3 ds) [.val v0, .val v1, .val v2, .emp, .emp, .emp] k = (lcR (g_is_clause_C3 ) ds).bind fun l => k l [.val v0, .val v1, .val v2, .emp, .emp, .emp] :=
  c_lcR (env0 := [.val v0, .val v1, .val v2, .emp, .emp, .emp]) rfl rfl rfl (fun _ _ _ => bdT_exc) (by
    intro d γ k
    unfold m_is_clause_C3 g_is_clause_C3
    simp only [↓c_fl, ↓c_pd, ↓c_pl, ↓c_pb, ↓c_po, ↓c_yes, ↓sqC_nx, ↓sqC_rt, ↓sqC_ro, ↓p_asB, ↓p_asI, ↓p_asOI, ↓p_asSl, ↓p_asSt, ↓p_lenl, ↓p_lent, ↓p_tupl, ↓p_listl, ↓p_listt, ↓p_neg, ↓p_isi, ↓p_isis, ↓p_isN, ↓p_notN, ↓p_int, ↓Res.assoc, ↓bIf_bind, ↓lpK_bind, ↓rb_ok, ↓rb_exc, ↓rb_bad, ↓lpK_nx, ↓lpK_rt, ↓c_bdT2, ↓c_bdT3, ↓c_e2, ↓f4_nmv, ↓f4_atv, ↓f5_nmv, ↓f5_atv, ↓f4_stV, ↓f5_stV, wipeE_n, wipeE_c, List.set_cons_zero, List.set_cons_succ]) k
def g_is_clause (v0 : D) (v1 : D) : Res (D) :=
  (g_is_clause_A1 v1).bind fun x3 => bIf x3 (.ok (.bool false)) ((asS v1).bind fun x4 => (lcR (g_is_clause_C1 v0) x4).bind fun x10 => (gBools (fun bs => bs.all id) (.list x10)).bind fun x11 => (asB x11).bind fun x12 => bIf (!x12) (.ok (.bool false)) ((asS v1).bind fun x13 => (lcR g_is_clause_C2 x13).bind fun x15 => (dSl (.list x15) (some 1) none).bind fun x16 => (gZip (.list x15) x16).bind fun x17 => (lcR g_is_clause_C3 x17).bind fun x20 => gBools (fun bs => bs.all id) (.list x20)))
theorem e_is_clause (v0 : D) (v1 : D) : f_is_clause [v0, v1] = g_is_clause v0 v1 := by
  refine (runB_cps 6 m_is_clause [v0, v1]).trans ?_
  show cps m_is_clause [.val v0, .val v1, .emp, .emp, .emp, .emp] kB = _
  unfold m_is_clause g_is_clause
  simp only [↓c_fl, ↓c_pd, ↓c_pl, ↓c_pb, ↓c_po, ↓c_yes, ↓sqC_nx, ↓sqC_rt, ↓sqC_ro, ↓p_asB, ↓p_asI, ↓p_asOI, ↓p_asSl, ↓p_asSt, ↓p_lenl, ↓p_lent, ↓p_tupl, ↓p_listl, ↓p_listt, ↓p_neg, ↓p_isi, ↓p_isis, ↓p_isN, ↓p_notN, ↓p_int, ↓Res.assoc, ↓bIf_bind, ↓lpK_bind, ↓rb_ok, ↓rb_exc, ↓rb_bad, ↓lpK_nx, ↓lpK_rt, ↓c_bdT2, ↓c_bdT3, ↓c_e1, ↓c_eB, ↓c_L, ↓c_lc, ↓c_not, ↓c_part, ↓c_sl, ↓c_vl, ↓c_if, ↓c_pre0, ↓c_retC, ↓c_seq, ↓c_setO, ↓c_lift2, ↓c_lift, ↓f2_nmv, ↓f2_atv, ↓f2_nmo, ↓f2_ato, ↓f1_vrv, ↓f2_vrv, ↓f2_stO, ↓f3_stV, ↓f4_stV, ↓f5_stV, ↓f2_fz, ↓few0, ↓s_is_clause_A1, ↓s_is_clause_C1, ↓s_is_clause_C2, ↓s_is_clause_C3, ↓Res.bind_ok, ↓kB_rt, ↓kB_nx, ↓kO_ro, ↓kR_rt, ↓kR_rtC, ↓kR_nx]

def m_is_riddle_A1 : M Bool :=
  (eOr (eNot (eB (e1 (gIsi "tuple") (eNm 0)))) (eOr (eB (e2 dNe (eVl (e1 gLen (eNm 0))) (eVl (pure (.int 2))))) (eNot (eB (eCall f_is_between (eCons (e2 dIx (eNm 0) (eVl (pure (.int 0)))) (eCons (pure (.int 0)) (eCons (pure (.int 5)) (pure [])))))))))
def m_is_riddle_A2 : M Bool :=
  (eOr (eNot (eB (e1 (gIsi "tuple") (eNm 2)))) (eB (e2 dGt (eVl (e1 gLen (eNm 2))) (eVl (pure (.int 30))))))
def m_is_riddle_C1 : M D :=
  (eCall f_is_clause (eCons (eVar 1) (eCons (eVar 3) (pure []))))
def m_is_riddle_C2 : M D :=
  (e2 dLt (eNm 4) (eNm 5))
def m_is_riddle : M Fl :=
  (sSeq (sIf m_is_riddle_A1 (sRetC false (pure (.bool false))) (pure .nx))
  (sSeq (sAsg (bdT [1, 2]) (eVar 0))
  (sSeq (sIf m_is_riddle_A2 (sRetC false (pure (.bool false))) (pure .nx))
  (sSeq (sIf (eNot (eB (e1 (gBools fun bs => bs.all id) (eVl (eL (eLc [3] ((eVar 2) >>= fun d => M.lift (asS d)) (setV 3) mYes m_is_riddle_C1)))))) (sRetC false (pure (.bool false))) (pure .nx))
  (sRetC false (e1 (gBools fun bs => bs.all id) (eVl (eL (eLc [4, 5] ((eVar 2) >>= fun d => (eSl dSl (eNm 2) (ePart (eVl (pure (.int 1)))) (pure none)) >>= fun e => M.lift (gZip d e)) (bdT [4, 5]) mYes m_is_riddle_C2)))))))))
def f_is_riddle : List D → Res D := runB 6 m_is_riddle
def g_is_riddle_A1 (v0 : D) : Res (Bool) :=
  bIf (!(isTy "tuple" v0)) (.ok true) ((gLen v0).bind fun x1 => (dNe x1 (.int 2)).bind fun x2 => (asB x2).bind fun x3 => bIf x3 (.ok true) ((dIx v0 (.int 0)).bind fun x4 => (g_is_between x4 (.int 0) (.int 5)).bind fun x5 => (asB x5).bind fun x6 => .ok (!x6)))
theorem s_is_riddle_A1 {β : Type} {v0 : D} (k : Bool → En → Res β) : cps m_is_riddle_A1 [.val v0, .emp, .emp, .emp, .emp, .emp] k = (g_is_riddle_A1 v0).bind fun y => k y [.val v0, .emp, .emp, .emp, .emp, .emp] := by
  unfold m_is_riddle_A1 g_is_riddle_A1
  simp only [↓c_fl, ↓c_pd, ↓c_pl, ↓c_pb, ↓c_po, ↓c_yes, ↓sqC_nx, ↓sqC_rt, ↓sqC_ro, ↓p_asB, ↓p_asI, ↓p_asOI, ↓p_asSl, ↓p_asSt, ↓p_lenl, ↓p_lent, ↓p_tupl, ↓p_listl, ↓p_listt, ↓p_neg, ↓p_isi, ↓p_isis, ↓p_isN, ↓p_notN, ↓p_int, ↓Res.assoc, ↓bIf_bind, ↓lpK_bind, ↓rb_ok, ↓rb_exc, ↓rb_bad, ↓lpK_nx, ↓lpK_rt, ↓c_e1, ↓c_e2, ↓c_eB, ↓c_call, ↓c_cons, ↓c_not, ↓c_or, ↓c_vl, ↓f0_nmv, ↓f0_atv, ↓e_is_between]
def g_is_riddle_A2 (v2 : D) : Res (Bool) :=
  bIf (!(isTy "tuple" v2)) (.ok true) ((gLen v2).bind fun x9 => (dGt x9 (.int 30)).bind fun x10 => (asB x10).bind fun x11 => .ok x11)
theorem s_is_riddle_A2 {β : Type} {v0 : D} {v1 : D} {v2 : D} (k : Bool → En → Res β) : cps m_is_riddle_A2 [.val v0, .val v1, .val v2, .emp, .emp, .emp] k = (g_is_riddle_A2 v2).bind fun y => k y [.val v0, .val v1, .val v2, .emp, .emp, .emp] := by
  unfold m_is_riddle_A2 g_is_riddle_A2
  simp only [↓c_fl, ↓c_pd, ↓c_pl, ↓c_pb, ↓c_po, ↓c_yes, ↓sqC_nx, ↓sqC_rt, ↓sqC_ro, ↓p_asB, ↓p_asI, ↓p_asOI, ↓p_asSl, ↓p_asSt, ↓p_lenl, ↓p_lent, ↓p_tupl, ↓p_listl, ↓p_listt, ↓p_neg, ↓p_isi, ↓p_isis, ↓p_isN, ↓p_notN, ↓p_int, ↓Res.assoc, ↓bIf_bind, ↓lpK_bind, ↓rb_ok, ↓rb_exc, ↓rb_bad, ↓lpK_nx, ↓lpK_rt, ↓c_e1, ↓c_e2, ↓c_eB, ↓c_not, ↓c_or, ↓c_vl, ↓f2_nmv, ↓f2_atv]
def g_is_riddle_C1 (v1 : D) (d : D) : Res D :=
  (g_is_clause v1 d).bind fun x14 => .ok x14
theorem s_is_riddle_C1 {β : Type} {v0 : D} {v1 : D} {v2 : D} {ds : List D} (k : List D → En → Res β) : cps (lcIn [3] (setV 3) mYes m_is_riddle_C1 ds) [.val v0, .val v1, .val v2, .emp, .emp, .emp] k = (lcR (g_is_riddle_C1 v1) ds).bind fun l => k l [.val v0, .val v1, .val v2, .emp, .emp, .emp] :=
  c_lcR (env0 := [.val v0, .val v1, .val v2, .emp, .emp, .emp]) rfl rfl rfl (fun _ _ _ => setV_exc) (by
    intro d γ k
    unfold m_is_riddle_C1 g_is_riddle_C1
    simp only [↓c_fl, ↓c_pd, ↓c_pl, ↓c_pb, ↓c_po, ↓c_yes, ↓sqC_nx, ↓sqC_rt, ↓sqC_ro, ↓p_asB, ↓p_asI, ↓p_asOI, ↓p_asSl, ↓p_asSt, ↓p_lenl, ↓p_lent, ↓p_tupl, ↓p_listl, ↓p_listt, ↓p_neg, ↓p_isi, ↓p_isis, ↓p_isN, ↓p_notN, ↓p_int, ↓Res.assoc, ↓bIf_bind, ↓lpK_bind, ↓rb_ok, ↓rb_exc, ↓rb_bad, ↓lpK_nx, ↓lpK_rt, ↓c_call, ↓c_cons, ↓f1_vrv, ↓f3_vrv, ↓f3_stV, ↓e_is_clause, wipeE_n, wipeE_c, List.set_cons_zero, List.set_cons_succ]) k
def g_is_riddle_C2  (d : D) : Res D :=
  (asT2 d).bind fun x20 => (dLt x20.1 x20.2).bind fun x21 => .ok x21
theorem s_is_riddle_C2 {β : Type} {v0 : D} {v1 : D} {v2 : D} {ds : List D} (k : List D → En → Res β) : cps (lcIn [4, 5] (bdT [4, 5]) mYes m_is_riddle_C2 ds) [.val v0, .val v1, .val v2, .emp, .emp, .emp] k = (lcR (g_is_riddle_C2 ) ds).bind fun l => k l [.val v0, .val v1, .val v2, .emp, .emp, .emp] :=
  c_lcR (env0 := [.val v0, .val v1, .val v2, .emp, .emp, .emp]) rfl rfl rfl (fun _ _ _ => bdT_exc) (by
    intro d γ k
    unfold m_is_riddle_C2 g_is_riddle_C2
    simp only [↓c_fl, ↓c_pd, ↓c_pl, ↓c_pb, ↓c_po, ↓c_yes, ↓sqC_nx, ↓sqC_rt, ↓sqC_ro, ↓p_asB, ↓p_asI, ↓p_asOI, ↓p_asSl, ↓p_asSt, ↓p_lenl, ↓p_lent, ↓p_tupl, ↓p_listl, ↓p_listt, ↓p_neg, ↓p_isi, ↓p_isis, ↓p_isN, ↓p_notN, ↓p_int, ↓Res.assoc, ↓bIf_bind, ↓lpK_bind, ↓rb_ok, ↓rb_exc, ↓rb_bad, ↓lpK_nx, ↓lpK_rt, ↓c_bdT2, ↓c_bdT3, ↓c_e2, ↓f4_nmv, ↓f4_atv, ↓f5_nmv, ↓f5_atv, ↓f4_stV, ↓f5_stV, wipeE_n, wipeE_c, List.set_cons_zero, List.set_cons_succ]) k
def g_is_riddle (v0 : D) : Res (D) :=
  (g_is_riddle_A1 v0).bind fun x7 => bIf x7 (.ok (.bool false)) ((asT2 v0).bind fun x8 => (g_is_riddle_A2 x8.2).bind fun x12 => bIf x12 (.ok (.bool false)) ((asS x8.2).bind fun x13 => (lcR (g_is_riddle_C1 x8.1) x13).bind fun x15 => (gBools (fun bs => bs.all id) (.list x15)).bind fun x16 => (asB x16).bind fun x17 => bIf (!x17) (.ok (.bool false)) ((dSl x8.2 (some 1) none).bind fun x18 => (gZip x8.2 x18).bind fun x19 => (lcR g_is_riddle_C2 x19).bind fun x22 => gBools (fun bs => bs.all id) (.list x22))))
theorem e_is_riddle (v0 : D) : f_is_riddle [v0] = g_is_riddle v0 := by
  refine (runB_cps 6 m_is_riddle [v0]).trans ?_
  show cps m_is_riddle [.val v0, .emp, .emp, .emp, .emp, .emp] kB = _
  unfold m_is_riddle g_is_riddle
  simp only [↓c_fl, ↓c_pd, ↓c_pl, ↓c_pb, ↓c_po, ↓c_yes, ↓sqC_nx, ↓sqC_rt, ↓sqC_ro, ↓p_asB, ↓p_asI, ↓p_asOI, ↓p_asSl, ↓p_asSt, ↓p_lenl, ↓p_lent, ↓p_tupl, ↓p_listl, ↓p_listt, ↓p_neg, ↓p_isi, ↓p_isis, ↓p_isN, ↓p_notN, ↓p_int, ↓Res.assoc, ↓bIf_bind, ↓lpK_bind, ↓rb_ok, ↓rb_exc, ↓rb_bad, ↓lpK_nx, ↓lpK_rt, ↓c_bdT2, ↓c_bdT3, ↓c_e1, ↓c_eB, ↓c_L, ↓c_lc, ↓c_not, ↓c_part, ↓c_sl, ↓c_vl, ↓c_asg, ↓c_if, ↓c_retC, ↓c_seq, ↓c_lift2, ↓c_lift, ↓f2_nmv, ↓f2_atv, ↓f0_vrv, ↓f2_vrv, ↓f3_stV, ↓f1_stV, ↓f2_stV, ↓f4_stV, ↓f5_stV, ↓s_is_riddle_A1, ↓s_is_riddle_A2, ↓s_is_riddle_C1, ↓s_is_riddle_C2, ↓Res.bind_ok, ↓kB_rt, ↓kB_nx, ↓kO_ro, ↓kR_rt, ↓kR_rtC, ↓kR_nx]

def m_is_so : M Fl :=
  (sRetC false (e2 dEq (eVl (e2 dIx (eNm 1) (eVl (e2 dSub (eVl (e1 gAbs (eNm 0))) (eVl (pure (.int 1))))))) (eVl (e1 gInt (eVl (e2 dGt (eNm 0) (eVl (pure (.int 0)))))))))
def f_is_so : List D → Res D := runB 2 m_is_so
def g_is_so (v0 : D) (v1 : D) : Res (D) :=
  (gAbs v0).bind fun x1 => (dSub x1 (.int 1)).bind fun x2 => (dIx v1 x2).bind fun x3 => (dGt v0 (.int 0)).bind fun x4 => (gInt x4).bind fun x5 => dEq x3 x5
theorem e_is_so (v0 : D) (v1 : D) : f_is_so [v0, v1] = g_is_so v0 v1 := by
  refine (runB_cps 2 m_is_so [v0, v1]).trans ?_
  show cps m_is_so [.val v0, .val v1] kB = _
  unfold m_is_so g_is_so
  simp only [↓c_fl, ↓c_pd, ↓c_pl, ↓c_pb, ↓c_po, ↓c_yes, ↓sqC_nx, ↓sqC_rt, ↓sqC_ro, ↓p_asB, ↓p_asI, ↓p_asOI, ↓p_asSl, ↓p_asSt, ↓p_lenl, ↓p_lent, ↓p_tupl, ↓p_listl, ↓p_listt, ↓p_neg, ↓p_isi, ↓p_isis, ↓p_isN, ↓p_notN, ↓p_int, ↓Res.assoc, ↓bIf_bind, ↓lpK_bind, ↓rb_ok, ↓rb_exc, ↓rb_bad, ↓lpK_nx, ↓lpK_rt, ↓c_e1, ↓c_e2, ↓c_vl, ↓c_retC, ↓f0_nmv, ↓f0_atv, ↓f1_nmv, ↓f1_atv, ↓Res.bind_ok, ↓kB_rt, ↓kB_nx, ↓kO_ro, ↓kR_rt, ↓kR_rtC, ↓kR_nx]

def m_keeps_clause_C1 : M D :=
  (eCall f_is_so (eCons (eVar 2) (eCons (eVar 0) (pure []))))
def m_keeps_clause : M Fl :=
  (sRetC false (e1 (gBools fun bs => bs.any id) (eVl (eL (eLc [2] ((eVar 1) >>= fun d => M.lift (asS d)) (setV 2) mYes m_keeps_clause_C1)))))
def f_keeps_clause : List D → Res D := runB 3 m_keeps_clause
def g_keeps_clause_C1 (v0 : D) (d : D) : Res D :=
  (g_is_so d v0).bind fun x2 => .ok x2
theorem s_keeps_clause_C1 {β : Type} {v0 : D} {v1 : D} {ds : List D} (k : List D → En → Res β) : cps (lcIn [2] (setV 2) mYes m_keeps_clause_C1 ds) [.val v0, .val v1, .emp] k = (lcR (g_keeps_clause_C1 v0) ds).bind fun l => k l [.val v0, .val v1, .emp] :=
  c_lcR (env0 := [.val v0, .val v1, .emp]) rfl rfl rfl (fun _ _ _ => setV_exc) (by
    intro d γ k
    unfold m_keeps_clause_C1 g_keeps_clause_C1
    simp only [↓c_fl, ↓c_pd, ↓c_pl, ↓c_pb, ↓c_po, ↓c_yes, ↓sqC_nx, ↓sqC_rt, ↓sqC_ro, ↓p_asB, ↓p_asI, ↓p_asOI, ↓p_asSl, ↓p_asSt, ↓p_lenl, ↓p_lent, ↓p_tupl, ↓p_listl, ↓p_listt, ↓p_neg, ↓p_isi, ↓p_isis, ↓p_isN, ↓p_notN, ↓p_int, ↓Res.assoc, ↓bIf_bind, ↓lpK_bind, ↓rb_ok, ↓rb_exc, ↓rb_bad, ↓lpK_nx, ↓lpK_rt, ↓c_call, ↓c_cons, ↓f0_vrv, ↓f2_vrv, ↓f2_stV, ↓e_is_so, wipeE_n, wipeE_c, List.set_cons_zero, List.set_cons_succ]) k
def g_keeps_clause (v0 : D) (v1 : D) : Res (D) :=
  (asS v1).bind fun x1 => (lcR (g_keeps_clause_C1 v0) x1).bind fun x3 => gBools (fun bs => bs.any id) (.list x3)
theorem e_keeps_clause (v0 : D) (v1 : D) : f_keeps_clause [v0, v1] = g_keeps_clause v0 v1 := by
  refine (runB_cps 3 m_keeps_clause [v0, v1]).trans ?_
  show cps m_keeps_clause [.val v0, .val v1, .emp] kB = _
  unfold m_keeps_clause g_keeps_clause
  simp only [↓c_fl, ↓c_pd, ↓c_pl, ↓c_pb, ↓c_po, ↓c_yes, ↓sqC_nx, ↓sqC_rt, ↓sqC_ro, ↓p_asB, ↓p_asI, ↓p_asOI, ↓p_asSl, ↓p_asSt, ↓p_lenl, ↓p_lent, ↓p_tupl, ↓p_listl, ↓p_listt, ↓p_neg, ↓p_isi, ↓p_isis, ↓p_isN, ↓p_notN, ↓p_int, ↓Res.assoc, ↓bIf_bind, ↓lpK_bind, ↓rb_ok, ↓rb_exc, ↓rb_bad, ↓lpK_nx, ↓lpK_rt, ↓c_e1, ↓c_L, ↓c_lc, ↓c_vl, ↓c_retC, ↓c_lift2, ↓c_lift, ↓f1_vrv, ↓f2_stV, ↓s_keeps_clause_C1, ↓Res.bind_ok, ↓kB_rt, ↓kB_nx, ↓kO_ro, ↓kR_rt, ↓kR_rtC, ↓kR_nx]

def m_is_answer_C1 : M D :=
  (eCall f_is_between (eCons (eVar 2) (eCons (pure (.int 0)) (eCons (pure (.int 1)) (pure [])))))
def m_is_answer_A1 : M D :=
  (eAndV (e1 (gIsi "tuple") (eNm 1)) (eAndV (e2 dEq (eVl (e1 gLen (eNm 1))) (eNm 0)) (e1 (gBools fun bs => bs.all id) (eVl (eL (eLc [2] ((eVar 1) >>= fun d => M.lift (asS d)) (setV 2) mYes m_is_answer_C1))))))
def m_is_answer : M Fl :=
  (sRetC false m_is_answer_A1)
def f_is_answer : List D → Res D := runB 3 m_is_answer
def g_is_answer_C1  (d : D) : Res D :=
  (g_is_between d (.int 0) (.int 1)).bind fun x5 => .ok x5
theorem s_is_answer_C1 {β : Type} {v0 : D} {v1 : D} {ds : List D} (k : List D → En → Res β) : cps (lcIn [2] (setV 2) mYes m_is_answer_C1 ds) [.val v0, .val v1, .emp] k = (lcR (g_is_answer_C1 ) ds).bind fun l => k l [.val v0, .val v1, .emp] :=
  c_lcR (env0 := [.val v0, .val v1, .emp]) rfl rfl rfl (fun _ _ _ => setV_exc) (by
    intro d γ k
    unfold m_is_answer_C1 g_is_answer_C1
    simp only [↓c_fl, ↓c_pd, ↓c_pl, ↓c_pb, ↓c_po, ↓c_yes, ↓sqC_nx, ↓sqC_rt, ↓sqC_ro, ↓p_asB, ↓p_asI, ↓p_asOI, ↓p_asSl, ↓p_asSt, ↓p_lenl, ↓p_lent, ↓p_tupl, ↓p_listl, ↓p_listt, ↓p_neg, ↓p_isi, ↓p_isis, ↓p_isN, ↓p_notN, ↓p_int, ↓Res.assoc, ↓bIf_bind, ↓lpK_bind, ↓rb_ok, ↓rb_exc, ↓rb_bad, ↓lpK_nx, ↓lpK_rt, ↓c_call, ↓c_cons, ↓f2_vrv, ↓f2_stV, ↓e_is_between, wipeE_n, wipeE_c, List.set_cons_zero, List.set_cons_succ]) k
def g_is_answer_A1 (v0 : D) (v1 : D) : Res (D) :=
  bIf (isTy "tuple" v1) ((gLen v1).bind fun x1 => (dEq x1 v0).bind fun x2 => (asB x2).bind fun x3 => bIf x3 ((asS v1).bind fun x4 => (lcR g_is_answer_C1 x4).bind fun x6 => (gBools (fun bs => bs.all id) (.list x6)).bind fun x7 => .ok x7) (.ok (.bool false))) (.ok (.bool false))
theorem s_is_answer_A1 {β : Type} {v0 : D} {v1 : D} (k : D → En → Res β) : cps m_is_answer_A1 [.val v0, .val v1, .emp] k = (g_is_answer_A1 v0 v1).bind fun y => k y [.val v0, .val v1, .emp] := by
  unfold m_is_answer_A1 g_is_answer_A1
  simp only [↓c_fl, ↓c_pd, ↓c_pl, ↓c_pb, ↓c_po, ↓c_yes, ↓sqC_nx, ↓sqC_rt, ↓sqC_ro, ↓p_asB, ↓p_asI, ↓p_asOI, ↓p_asSl, ↓p_asSt, ↓p_lenl, ↓p_lent, ↓p_tupl, ↓p_listl, ↓p_listt, ↓p_neg, ↓p_isi, ↓p_isis, ↓p_isN, ↓p_notN, ↓p_int, ↓Res.assoc, ↓bIf_bind, ↓lpK_bind, ↓rb_ok, ↓rb_exc, ↓rb_bad, ↓lpK_nx, ↓lpK_rt, ↓c_e1, ↓c_e2, ↓c_andV, ↓c_eB, ↓c_L, ↓c_lc, ↓c_vl, ↓c_lift2, ↓c_lift, ↓f0_nmv, ↓f0_atv, ↓f1_nmv, ↓f1_atv, ↓f1_vrv, ↓f2_stV, ↓s_is_answer_C1]
def g_is_answer (v0 : D) (v1 : D) : Res (D) :=
  g_is_answer_A1 v0 v1
theorem e_is_answer (v0 : D) (v1 : D) : f_is_answer [v0, v1] = g_is_answer v0 v1 := by
  refine (runB_cps 3 m_is_answer [v0, v1]).trans ?_
  show cps m_is_answer [.val v0, .val v1, .emp] kB = _
  unfold m_is_answer g_is_answer
  simp only [↓c_fl, ↓c_pd, ↓c_pl, ↓c_pb, ↓c_po, ↓c_yes, ↓sqC_nx, ↓sqC_rt, ↓sqC_ro, ↓p_asB, ↓p_asI, ↓p_asOI, ↓p_asSl, ↓p_asSt, ↓p_lenl, ↓p_lent, ↓p_tupl, ↓p_listl, ↓p_listt, ↓p_neg, ↓p_isi, ↓p_isis, ↓p_isN, ↓p_notN, ↓p_int, ↓Res.assoc, ↓bIf_bind, ↓lpK_bind, ↓rb_ok, ↓rb_exc, ↓rb_bad, ↓lpK_nx, ↓lpK_rt, ↓c_retC, ↓s_is_answer_A1, ↓Res.bind_ok, ↓kB_rt, ↓kB_nx, ↓kO_ro, ↓kR_rt, ↓kR_rtC, ↓kR_nx]

def m_keeps_C1 : M D :=
  (eCall f_keeps_clause (eCons (eVar 1) (eCons (eVar 2) (pure []))))
def m_keeps : M Fl :=
  (sSeq (sIf (eNot (eB (eCall f_is_answer (eCons (e2 dIx (eNm 0) (eVl (pure (.int 0)))) (eCons (eVar 1) (pure [])))))) (sRetC false (pure (.bool false))) (pure .nx))
  (sRetC false (e1 (gBools fun bs => bs.all id) (eVl (eL (eLc [2] ((e2 dIx (eNm 0) (eVl (pure (.int 1)))) >>= fun d => M.lift (asS d)) (setV 2) mYes m_keeps_C1))))))
def f_keeps : List D → Res D := runB 3 m_keeps
def g_keeps_C1 (v1 : D) (d : D) : Res D :=
  (g_keeps_clause v1 d).bind fun x6 => .ok x6
theorem s_keeps_C1 {β : Type} {v0 : D} {v1 : D} {ds : List D} (k : List D → En → Res β) : cps (lcIn [2] (setV 2) mYes m_keeps_C1 ds) [.val v0, .val v1, .emp] k = (lcR (g_keeps_C1 v1) ds).bind fun l => k l [.val v0, .val v1, .emp] :=
  c_lcR (env0 := [.val v0, .val v1, .emp]) rfl rfl rfl (fun _ _ _ => setV_exc) (by
    intro d γ k
    unfold m_keeps_C1 g_keeps_C1
    simp only [↓c_fl, ↓c_pd, ↓c_pl, ↓c_pb, ↓c_po, ↓c_yes, ↓sqC_nx, ↓sqC_rt, ↓sqC_ro, ↓p_asB, ↓p_asI, ↓p_asOI, ↓p_asSl, ↓p_asSt, ↓p_lenl, ↓p_lent, ↓p_tupl, ↓p_listl, ↓p_listt, ↓p_neg, ↓p_isi, ↓p_isis, ↓p_isN, ↓p_notN, ↓p_int, ↓Res.assoc, ↓bIf_bind, ↓lpK_bind, ↓rb_ok, ↓rb_exc, ↓rb_bad, ↓lpK_nx, ↓lpK_rt, ↓c_call, ↓c_cons, ↓f1_vrv, ↓f2_vrv, ↓f2_stV, ↓e_keeps_clause, wipeE_n, wipeE_c, List.set_cons_zero, List.set_cons_succ]) k
def g_keeps (v0 : D) (v1 : D) : Res (D) :=
  (dIx v0 (.int 0)).bind fun x1 => (g_is_answer x1 v1).bind fun x2 => (asB x2).bind fun x3 => bIf (!x3) (.ok (.bool false)) ((dIx v0 (.int 1)).bind fun x4 => (asS x4).bind fun x5 => (lcR (g_keeps_C1 v1) x5).bind fun x7 => gBools (fun bs => bs.all id) (.list x7))
theorem e_keeps (v0 : D) (v1 : D) : f_keeps [v0, v1] = g_keeps v0 v1 := by
  refine (runB_cps 3 m_keeps [v0, v1]).trans ?_
  show cps m_keeps [.val v0, .val v1, .emp] kB = _
  unfold m_keeps g_keeps
  simp only [↓c_fl, ↓c_pd, ↓c_pl, ↓c_pb, ↓c_po, ↓c_yes, ↓sqC_nx, ↓sqC_rt, ↓sqC_ro, ↓p_asB, ↓p_asI, ↓p_asOI, ↓p_asSl, ↓p_asSt, ↓p_lenl, ↓p_lent, ↓p_tupl, ↓p_listl, ↓p_listt, ↓p_neg, ↓p_isi, ↓p_isis, ↓p_isN, ↓p_notN, ↓p_int, ↓Res.assoc, ↓bIf_bind, ↓lpK_bind, ↓rb_ok, ↓rb_exc, ↓rb_bad, ↓lpK_nx, ↓lpK_rt, ↓c_e1, ↓c_e2, ↓c_eB, ↓c_call, ↓c_cons, ↓c_L, ↓c_lc, ↓c_not, ↓c_vl, ↓c_if, ↓c_retC, ↓c_seq, ↓c_lift2, ↓c_lift, ↓f0_nmv, ↓f0_atv, ↓f1_vrv, ↓f2_stV, ↓s_keeps_C1, ↓e_is_answer, ↓Res.bind_ok, ↓kB_rt, ↓kB_nx, ↓kO_ro, ↓kR_rt, ↓kR_rtC, ↓kR_nx]

def m_all_answers_C1 : M D :=
  (e2 dAddL (eNm 4) (eVl (eTup (eCons (eVar 5) (pure [])))))
def m_all_answers_L1 : M Fl :=
  (sSeq (sExt 3 (eL (eLc [5] ((eTup (eCons (pure (.int 0)) (eCons (pure (.int 1)) (pure [])))) >>= fun d => M.lift (asS d)) (setV 5) mYes m_all_answers_C1)))
  (sPre [] [4] (pure .nx)))
def m_all_answers_L2 : M Fl :=
  (sSeq (sSetO 3 (eLst (pure [])))
  (sSeq (sFor ((eVar 1) >>= fun d => M.lift (asS d)) (setV 4) m_all_answers_L1)
  (sPre [3] [] (sSeq (sSet 1 (eVar 3))
  (sPre [] [2, 3] (pure .nx))))))
def m_all_answers : M Fl :=
  (sSeq (sSet 1 (eL (eLst (eCons (eTup (pure [])) (pure [])))))
  (sSeq (sFor (eRg1 (eNm 0) >>= fun p => M.lift (gRg p)) (setV 2) m_all_answers_L2)
  (sRetC false (eVar 1))))
def f_all_answers : List D → Res D := runB 6 m_all_answers
def g_all_answers_C1 (v4 : D) (d : D) : Res D :=
  (dAddL v4 (.tuple [d])).bind fun x4 => .ok x4
theorem s_all_answers_C1 {β : Type} {v0 : D} {v1 : D} {v2 : D} {v3 : List D} {v4 : D} {ds : List D} (k : List D → En → Res β) : cps (lcIn [5] (setV 5) mYes m_all_answers_C1 ds) [.val v0, .val v1, .val v2, .own v3, .val v4, .emp] k = (lcR (g_all_answers_C1 v4) ds).bind fun l => k l [.val v0, .val v1, .val v2, .own v3, .val v4, .emp] :=
  c_lcR (env0 := [.val v0, .val v1, .val v2, .own v3, .val v4, .emp]) rfl rfl rfl (fun _ _ _ => setV_exc) (by
    intro d γ k
    unfold m_all_answers_C1 g_all_answers_C1
    simp only [↓c_fl, ↓c_pd, ↓c_pl, ↓c_pb, ↓c_po, ↓c_yes, ↓sqC_nx, ↓sqC_rt, ↓sqC_ro, ↓p_asB, ↓p_asI, ↓p_asOI, ↓p_asSl, ↓p_asSt, ↓p_lenl, ↓p_lent, ↓p_tupl, ↓p_listl, ↓p_listt, ↓p_neg, ↓p_isi, ↓p_isis, ↓p_isN, ↓p_notN, ↓p_int, ↓Res.assoc, ↓bIf_bind, ↓lpK_bind, ↓rb_ok, ↓rb_exc, ↓rb_bad, ↓lpK_nx, ↓lpK_rt, ↓c_e2, ↓c_cons, ↓c_tup, ↓c_vl, ↓f4_nmv, ↓f4_atv, ↓f5_vrv, ↓f5_stV, ↓few1, wipeE_n, wipeE_c, List.set_cons_zero, List.set_cons_succ]) k
def g_all_answers_L1  (d : D) (s : List D) : Res (List D) :=
  (lcR (g_all_answers_C1 d) [(.int 0), (.int 1)]).bind fun x5 => extR s (.list x5)
theorem s_all_answers_L1 {β : Type} {v0 : D} {v1 : D} {v2 : D} {v3 : List D} {ds : List D} (k : Fl → En → Res β) : cps (forGo (setV 4) m_all_answers_L1 ds) [.val v0, .val v1, .val v2, .own v3, .emp, .emp] k = (foldR (g_all_answers_L1 ) ds v3).bind fun s' => k .nx [.val v0, .val v1, .val v2, .own s', .emp, .emp] :=
  c_fold (fun s : List D => [.val v0, .val v1, .val v2, .own s, .emp, .emp]) (g_all_answers_L1 ) (by
    intro d s γ k
    show (cps ((setV 4) d) [.val v0, .val v1, .val v2, .own s, .emp, .emp] fun _ ρ1 => cps m_all_answers_L1 ρ1 k) = _
    unfold m_all_answers_L1 g_all_answers_L1
    simp only [↓c_fl, ↓c_pd, ↓c_pl, ↓c_pb, ↓c_po, ↓c_yes, ↓sqC_nx, ↓sqC_rt, ↓sqC_ro, ↓p_asB, ↓p_asI, ↓p_asOI, ↓p_asSl, ↓p_asSt, ↓p_lenl, ↓p_lent, ↓p_tupl, ↓p_listl, ↓p_listt, ↓p_neg, ↓p_isi, ↓p_isis, ↓p_isN, ↓p_notN, ↓p_int, ↓Res.assoc, ↓bIf_bind, ↓lpK_bind, ↓rb_ok, ↓rb_exc, ↓rb_bad, ↓lpK_nx, ↓lpK_rt, ↓c_cons, ↓c_L, ↓c_lc, ↓c_tup, ↓c_ext, ↓c_pre0, ↓c_seq, ↓c_lift2, ↓c_lift, ↓f3_iso, ↓f3_ext, ↓f4_stV, ↓f5_stV, ↓f4_wp, ↓few1, ↓few2, ↓s_all_answers_C1]) ds v3 k
def g_all_answers_L2  (d : D) (s : D) : Res (D) :=
  (asS s).bind fun x3 => (foldR g_all_answers_L1 x3 []).bind fun x7 => .ok (.list x7)
theorem s_all_answers_L2 {β : Type} {v0 : D} {v1 : D} {ds : List D} (k : Fl → En → Res β) : cps (forGo (setV 2) m_all_answers_L2 ds) [.val v0, .val v1, .emp, .emp, .emp, .emp] k = (foldR (g_all_answers_L2 ) ds v1).bind fun s' => k .nx [.val v0, .val s', .emp, .emp, .emp, .emp] :=
  c_fold (fun s : D => [.val v0, .val s, .emp, .emp, .emp, .emp]) (g_all_answers_L2 ) (by
    intro d s γ k
    show (cps ((setV 2) d) [.val v0, .val s, .emp, .emp, .emp, .emp] fun _ ρ1 => cps m_all_answers_L2 ρ1 k) = _
    unfold m_all_answers_L2 g_all_answers_L2
    simp only [↓c_fl, ↓c_pd, ↓c_pl, ↓c_pb, ↓c_po, ↓c_yes, ↓sqC_nx, ↓sqC_rt, ↓sqC_ro, ↓p_asB, ↓p_asI, ↓p_asOI, ↓p_asSl, ↓p_asSt, ↓p_lenl, ↓p_lent, ↓p_tupl, ↓p_listl, ↓p_listt, ↓p_neg, ↓p_isi, ↓p_isis, ↓p_isN, ↓p_notN, ↓p_int, ↓Res.assoc, ↓bIf_bind, ↓lpK_bind, ↓rb_ok, ↓rb_exc, ↓rb_bad, ↓lpK_nx, ↓lpK_rt, ↓c_lst, ↓c_for, ↓c_pre0, ↓c_seq, ↓c_set, ↓c_setO, ↓c_lift2, ↓c_lift, ↓f1_vrv, ↓f3_vrv, ↓f1_stV, ↓f3_stO, ↓f2_stV, ↓f4_stV, ↓f3_fz, ↓f2_wp, ↓f3_wp, ↓few0, ↓few1, ↓few2, ↓s_all_answers_L1]) ds v1 k
def g_all_answers (v0 : D) : Res (D) :=
  (asI v0).bind fun x1 => (gRg (0, x1)).bind fun x2 => foldR g_all_answers_L2 x2 (.list [(.tuple [])])
theorem e_all_answers (v0 : D) : f_all_answers [v0] = g_all_answers v0 := by
  refine (runB_cps 6 m_all_answers [v0]).trans ?_
  show cps m_all_answers [.val v0, .emp, .emp, .emp, .emp, .emp] kB = _
  unfold m_all_answers g_all_answers
  simp only [↓c_fl, ↓c_pd, ↓c_pl, ↓c_pb, ↓c_po, ↓c_yes, ↓sqC_nx, ↓sqC_rt, ↓sqC_ro, ↓p_asB, ↓p_asI, ↓p_asOI, ↓p_asSl, ↓p_asSt, ↓p_lenl, ↓p_lent, ↓p_tupl, ↓p_listl, ↓p_listt, ↓p_neg, ↓p_isi, ↓p_isis, ↓p_isN, ↓p_notN, ↓p_int, ↓Res.assoc, ↓bIf_bind, ↓lpK_bind, ↓rb_ok, ↓rb_exc, ↓rb_bad, ↓lpK_nx, ↓lpK_rt, ↓c_cons, ↓c_L, ↓c_lst, ↓c_rg1, ↓c_tup, ↓c_for, ↓c_retC, ↓c_seq, ↓c_set, ↓c_lift2, ↓c_lift, ↓f0_nmv, ↓f0_atv, ↓f1_vrv, ↓f1_stV, ↓f2_stV, ↓few1, ↓few0, ↓few2, ↓s_all_answers_L2, ↓Res.bind_ok, ↓kB_rt, ↓kB_nx, ↓kO_ro, ↓kR_rt, ↓kR_rtC, ↓kR_nx]

def m_answers_w2_C1 : M D :=
  (eVar 1)
def m_answers_w2_C1t : M Bool :=
  (eB (eCall f_keeps (eCons (eVar 0) (eCons (eVar 1) (pure [])))))
def m_answers_w2 : M Fl :=
  (sRetC false (eL (eLc [1] ((eCall f_all_answers (eCons (e2 dIx (eNm 0) (eVl (pure (.int 0)))) (pure []))) >>= fun d => M.lift (asS d)) (setV 1) m_answers_w2_C1t m_answers_w2_C1)))
def f_answers_w2 : List D → Res D := runB 2 m_answers_w2
def g_answers_w2_C1  (d : D) : Res D :=
  .ok d
def g_answers_w2_C1t (v0 : D) (d : D) : Res Bool :=
  (g_keeps v0 d).bind fun x4 => (asB x4).bind fun x5 => .ok x5
theorem s_answers_w2_C1 {β : Type} {v0 : D} {ds : List D} (k : List D → En → Res β) : cps (lcIn [1] (setV 1) m_answers_w2_C1t m_answers_w2_C1 ds) [.val v0, .emp] k = (lcTR (g_answers_w2_C1t v0) (g_answers_w2_C1 ) ds).bind fun l => k l [.val v0, .emp] :=
  c_lcTR (env0 := [.val v0, .emp]) rfl rfl rfl (fun _ _ _ => setV_exc) (by
    intro d γ k
    unfold m_answers_w2_C1t g_answers_w2_C1t
    simp only [↓c_fl, ↓c_pd, ↓c_pl, ↓c_pb, ↓c_po, ↓c_yes, ↓sqC_nx, ↓sqC_rt, ↓sqC_ro, ↓p_asB, ↓p_asI, ↓p_asOI, ↓p_asSl, ↓p_asSt, ↓p_lenl, ↓p_lent, ↓p_tupl, ↓p_listl, ↓p_listt, ↓p_neg, ↓p_isi, ↓p_isis, ↓p_isN, ↓p_notN, ↓p_int, ↓Res.assoc, ↓bIf_bind, ↓lpK_bind, ↓rb_ok, ↓rb_exc, ↓rb_bad, ↓lpK_nx, ↓lpK_rt, ↓c_eB, ↓c_call, ↓c_cons, ↓f0_vrv, ↓f1_vrv, ↓f1_stV, ↓e_keeps, wipeE_n, wipeE_c, List.set_cons_zero, List.set_cons_succ]) (by
    intro d γ k
    unfold m_answers_w2_C1t g_answers_w2_C1t m_answers_w2_C1 g_answers_w2_C1
    simp only [↓c_fl, ↓c_pd, ↓c_pl, ↓c_pb, ↓c_po, ↓c_yes, ↓sqC_nx, ↓sqC_rt, ↓sqC_ro, ↓p_asB, ↓p_asI, ↓p_asOI, ↓p_asSl, ↓p_asSt, ↓p_lenl, ↓p_lent, ↓p_tupl, ↓p_listl, ↓p_listt, ↓p_neg, ↓p_isi, ↓p_isis, ↓p_isN, ↓p_notN, ↓p_int, ↓Res.assoc, ↓bIf_bind, ↓lpK_bind, ↓rb_ok, ↓rb_exc, ↓rb_bad, ↓lpK_nx, ↓lpK_rt, ↓c_eB, ↓c_call, ↓c_cons, ↓f0_vrv, ↓f1_vrv, ↓f1_stV, ↓e_keeps, wipeE_n, wipeE_c, List.set_cons_zero, List.set_cons_succ]) k
def g_answers_w2 (v0 : D) : Res (D) :=
  (dIx v0 (.int 0)).bind fun x1 => (g_all_answers x1).bind fun x2 => (asS x2).bind fun x3 => (lcTR (g_answers_w2_C1t v0) g_answers_w2_C1 x3).bind fun x8 => .ok (.list x8)
theorem e_answers_w2 (v0 : D) : f_answers_w2 [v0] = g_answers_w2 v0 := by
  refine (runB_cps 2 m_answers_w2 [v0]).trans ?_
  show cps m_answers_w2 [.val v0, .emp] kB = _
  unfold m_answers_w2 g_answers_w2
  simp only [↓c_fl, ↓c_pd, ↓c_pl, ↓c_pb, ↓c_po, ↓c_yes, ↓sqC_nx, ↓sqC_rt, ↓sqC_ro, ↓p_asB, ↓p_asI, ↓p_asOI, ↓p_asSl, ↓p_asSt, ↓p_lenl, ↓p_lent, ↓p_tupl, ↓p_listl, ↓p_listt, ↓p_neg, ↓p_isi, ↓p_isis, ↓p_isN, ↓p_notN, ↓p_int, ↓Res.assoc, ↓bIf_bind, ↓lpK_bind, ↓rb_ok, ↓rb_exc, ↓rb_bad, ↓lpK_nx, ↓lpK_rt, ↓c_e2, ↓c_call, ↓c_cons, ↓c_L, ↓c_lc, ↓c_vl, ↓c_retC, ↓c_lift2, ↓c_lift, ↓f0_nmv, ↓f0_atv, ↓f1_stV, ↓s_answers_w2_C1, ↓e_all_answers, ↓Res.bind_ok, ↓kB_rt, ↓kB_nx, ↓kO_ro, ↓kR_rt, ↓kR_rtC, ↓kR_nx]

def m_is_turning_C1 : M D :=
  (eCall f_is_whole (eCons (eVar 2) (pure [])))
def m_is_turning_A1 : M Bool :=
  (eOr (eNot (eB (e1 (gIsi "tuple") (eNm 1)))) (eOr (eB (e2 dNe (eVl (e1 gLen (eNm 1))) (eNm 0))) (eNot (eB (e1 (gBools fun bs => bs.all id) (eVl (eL (eLc [2] ((eVar 1) >>= fun d => M.lift (asS d)) (setV 2) mYes m_is_turning_C1))))))))
def m_is_turning_C2 : M D :=
  (e1 gAbs (eNm 2))
def m_is_turning : M Fl :=
  (sSeq (sIf m_is_turning_A1 (sRetC false (pure (.bool false))) (pure .nx))
  (sRetC false (e2 dEq (eVl (eL (e1 gSorted2 (eVl (eL (eLc [2] ((eVar 1) >>= fun d => M.lift (asS d)) (setV 2) mYes m_is_turning_C2)))))) (eVl (eL ((eRg2 (eVl (pure (.int 1))) (eVl (e2 dAddL (eNm 0) (eVl (pure (.int 1)))))) >>= fun p => M.lift (gRgL p)))))))
def f_is_turning : List D → Res D := runB 3 m_is_turning
def g_is_turning_C1  (d : D) : Res D :=
  (g_is_whole d).bind fun x5 => .ok x5
theorem s_is_turning_C1 {β : Type} {v0 : D} {v1 : D} {ds : List D} (k : List D → En → Res β) : cps (lcIn [2] (setV 2) mYes m_is_turning_C1 ds) [.val v0, .val v1, .emp] k = (lcR (g_is_turning_C1 ) ds).bind fun l => k l [.val v0, .val v1, .emp] :=
  c_lcR (env0 := [.val v0, .val v1, .emp]) rfl rfl rfl (fun _ _ _ => setV_exc) (by
    intro d γ k
    unfold m_is_turning_C1 g_is_turning_C1
    simp only [↓c_fl, ↓c_pd, ↓c_pl, ↓c_pb, ↓c_po, ↓c_yes, ↓sqC_nx, ↓sqC_rt, ↓sqC_ro, ↓p_asB, ↓p_asI, ↓p_asOI, ↓p_asSl, ↓p_asSt, ↓p_lenl, ↓p_lent, ↓p_tupl, ↓p_listl, ↓p_listt, ↓p_neg, ↓p_isi, ↓p_isis, ↓p_isN, ↓p_notN, ↓p_int, ↓Res.assoc, ↓bIf_bind, ↓lpK_bind, ↓rb_ok, ↓rb_exc, ↓rb_bad, ↓lpK_nx, ↓lpK_rt, ↓c_call, ↓c_cons, ↓f2_vrv, ↓f2_stV, ↓e_is_whole, wipeE_n, wipeE_c, List.set_cons_zero, List.set_cons_succ]) k
def g_is_turning_A1 (v0 : D) (v1 : D) : Res (Bool) :=
  bIf (!(isTy "tuple" v1)) (.ok true) ((gLen v1).bind fun x1 => (dNe x1 v0).bind fun x2 => (asB x2).bind fun x3 => bIf x3 (.ok true) ((asS v1).bind fun x4 => (lcR g_is_turning_C1 x4).bind fun x6 => (gBools (fun bs => bs.all id) (.list x6)).bind fun x7 => (asB x7).bind fun x8 => .ok (!x8)))
theorem s_is_turning_A1 {β : Type} {v0 : D} {v1 : D} (k : Bool → En → Res β) : cps m_is_turning_A1 [.val v0, .val v1, .emp] k = (g_is_turning_A1 v0 v1).bind fun y => k y [.val v0, .val v1, .emp] := by
  unfold m_is_turning_A1 g_is_turning_A1
  simp only [↓c_fl, ↓c_pd, ↓c_pl, ↓c_pb, ↓c_po, ↓c_yes, ↓sqC_nx, ↓sqC_rt, ↓sqC_ro, ↓p_asB, ↓p_asI, ↓p_asOI, ↓p_asSl, ↓p_asSt, ↓p_lenl, ↓p_lent, ↓p_tupl, ↓p_listl, ↓p_listt, ↓p_neg, ↓p_isi, ↓p_isis, ↓p_isN, ↓p_notN, ↓p_int, ↓Res.assoc, ↓bIf_bind, ↓lpK_bind, ↓rb_ok, ↓rb_exc, ↓rb_bad, ↓lpK_nx, ↓lpK_rt, ↓c_e1, ↓c_e2, ↓c_eB, ↓c_L, ↓c_lc, ↓c_not, ↓c_or, ↓c_vl, ↓c_lift2, ↓c_lift, ↓f0_nmv, ↓f0_atv, ↓f1_nmv, ↓f1_atv, ↓f1_vrv, ↓f2_stV, ↓s_is_turning_C1]
def g_is_turning_C2  (d : D) : Res D :=
  (gAbs d).bind fun x11 => .ok x11
theorem s_is_turning_C2 {β : Type} {v0 : D} {v1 : D} {ds : List D} (k : List D → En → Res β) : cps (lcIn [2] (setV 2) mYes m_is_turning_C2 ds) [.val v0, .val v1, .emp] k = (lcR (g_is_turning_C2 ) ds).bind fun l => k l [.val v0, .val v1, .emp] :=
  c_lcR (env0 := [.val v0, .val v1, .emp]) rfl rfl rfl (fun _ _ _ => setV_exc) (by
    intro d γ k
    unfold m_is_turning_C2 g_is_turning_C2
    simp only [↓c_fl, ↓c_pd, ↓c_pl, ↓c_pb, ↓c_po, ↓c_yes, ↓sqC_nx, ↓sqC_rt, ↓sqC_ro, ↓p_asB, ↓p_asI, ↓p_asOI, ↓p_asSl, ↓p_asSt, ↓p_lenl, ↓p_lent, ↓p_tupl, ↓p_listl, ↓p_listt, ↓p_neg, ↓p_isi, ↓p_isis, ↓p_isN, ↓p_notN, ↓p_int, ↓Res.assoc, ↓bIf_bind, ↓lpK_bind, ↓rb_ok, ↓rb_exc, ↓rb_bad, ↓lpK_nx, ↓lpK_rt, ↓c_e1, ↓f2_nmv, ↓f2_atv, ↓f2_stV, wipeE_n, wipeE_c, List.set_cons_zero, List.set_cons_succ]) k
def g_is_turning (v0 : D) (v1 : D) : Res (D) :=
  (g_is_turning_A1 v0 v1).bind fun x9 => bIf x9 (.ok (.bool false)) ((asS v1).bind fun x10 => (lcR g_is_turning_C2 x10).bind fun x12 => (gSorted2 (.list x12)).bind fun x13 => (dAddL v0 (.int 1)).bind fun x14 => (asI x14).bind fun x15 => (gRgL (1, x15)).bind fun x16 => dEq (.list x13) (.list x16))
theorem e_is_turning (v0 : D) (v1 : D) : f_is_turning [v0, v1] = g_is_turning v0 v1 := by
  refine (runB_cps 3 m_is_turning [v0, v1]).trans ?_
  show cps m_is_turning [.val v0, .val v1, .emp] kB = _
  unfold m_is_turning g_is_turning
  simp only [↓c_fl, ↓c_pd, ↓c_pl, ↓c_pb, ↓c_po, ↓c_yes, ↓sqC_nx, ↓sqC_rt, ↓sqC_ro, ↓p_asB, ↓p_asI, ↓p_asOI, ↓p_asSl, ↓p_asSt, ↓p_lenl, ↓p_lent, ↓p_tupl, ↓p_listl, ↓p_listt, ↓p_neg, ↓p_isi, ↓p_isis, ↓p_isN, ↓p_notN, ↓p_int, ↓Res.assoc, ↓bIf_bind, ↓lpK_bind, ↓rb_ok, ↓rb_exc, ↓rb_bad, ↓lpK_nx, ↓lpK_rt, ↓c_e1, ↓c_e2, ↓c_L, ↓c_lc, ↓c_rg2, ↓c_vl, ↓c_if, ↓c_retC, ↓c_seq, ↓c_lift2, ↓c_lift, ↓f0_nmv, ↓f0_atv, ↓f1_vrv, ↓f2_stV, ↓s_is_turning_A1, ↓s_is_turning_C2, ↓Res.bind_ok, ↓kB_rt, ↓kB_nx, ↓kO_ro, ↓kR_rt, ↓kR_rtC, ↓kR_nx]

def m_need_turning : M Fl :=
  (sIf (eNot (eB (eCall f_is_turning (eCons (eVar 0) (eCons (eVar 1) (pure [])))))) (sExc "NoTurning") (pure .nx))
def f_need_turning : List D → Res D := runB 2 m_need_turning
def g_need_turning (v0 : D) (v1 : D) : Res (D) :=
  (g_is_turning v0 v1).bind fun x1 => (asB x1).bind fun x2 => bIf (!x2) (.exc "NoTurning") (.ok .none)
theorem e_need_turning (v0 : D) (v1 : D) : f_need_turning [v0, v1] = g_need_turning v0 v1 := by
  refine (runB_cps 2 m_need_turning [v0, v1]).trans ?_
  show cps m_need_turning [.val v0, .val v1] kB = _
  unfold m_need_turning g_need_turning
  simp only [↓c_fl, ↓c_pd, ↓c_pl, ↓c_pb, ↓c_po, ↓c_yes, ↓sqC_nx, ↓sqC_rt, ↓sqC_ro, ↓p_asB, ↓p_asI, ↓p_asOI, ↓p_asSl, ↓p_asSt, ↓p_lenl, ↓p_lent, ↓p_tupl, ↓p_listl, ↓p_listt, ↓p_neg, ↓p_isi, ↓p_isis, ↓p_isN, ↓p_notN, ↓p_int, ↓Res.assoc, ↓bIf_bind, ↓lpK_bind, ↓rb_ok, ↓rb_exc, ↓rb_bad, ↓lpK_nx, ↓lpK_rt, ↓c_eB, ↓c_call, ↓c_cons, ↓c_not, ↓c_exc, ↓c_if, ↓f0_vrv, ↓f1_vrv, ↓e_is_turning, ↓Res.bind_ok, ↓kB_rt, ↓kB_nx, ↓kO_ro, ↓kR_rt, ↓kR_rtC, ↓kR_nx]

def m_led_sign : M Fl :=
  (sSeq (sIf (eB (e2 dGt (eNm 1) (eVl (pure (.int 0))))) (sRetC false (e2 dIx (eNm 0) (eVl (e2 dSub (eNm 1) (eVl (pure (.int 1))))))) (pure .nx))
  (sRetC false (e2 dSub (eVl (pure (.int 0))) (eVl (e2 dIx (eNm 0) (eVl (e2 dSub (eVl (e2 dSub (eVl (pure (.int 0))) (eNm 1))) (eVl (pure (.int 1))))))))))
def f_led_sign : List D → Res D := runB 2 m_led_sign
def g_led_sign (v0 : D) (v1 : D) : Res (D) :=
  (dGt v1 (.int 0)).bind fun x1 => (asB x1).bind fun x2 => bIf x2 ((dSub v1 (.int 1)).bind fun x3 => dIx v0 x3) ((dSub (.int 0) v1).bind fun x5 => (dSub x5 (.int 1)).bind fun x6 => (dIx v0 x6).bind fun x7 => dSub (.int 0) x7)
theorem e_led_sign (v0 : D) (v1 : D) : f_led_sign [v0, v1] = g_led_sign v0 v1 := by
  refine (runB_cps 2 m_led_sign [v0, v1]).trans ?_
  show cps m_led_sign [.val v0, .val v1] kB = _
  unfold m_led_sign g_led_sign
  simp only [↓c_fl, ↓c_pd, ↓c_pl, ↓c_pb, ↓c_po, ↓c_yes, ↓sqC_nx, ↓sqC_rt, ↓sqC_ro, ↓p_asB, ↓p_asI, ↓p_asOI, ↓p_asSl, ↓p_asSt, ↓p_lenl, ↓p_lent, ↓p_tupl, ↓p_listl, ↓p_listt, ↓p_neg, ↓p_isi, ↓p_isis, ↓p_isN, ↓p_notN, ↓p_int, ↓Res.assoc, ↓bIf_bind, ↓lpK_bind, ↓rb_ok, ↓rb_exc, ↓rb_bad, ↓lpK_nx, ↓lpK_rt, ↓c_e2, ↓c_eB, ↓c_vl, ↓c_if, ↓c_retC, ↓c_seq, ↓f0_nmv, ↓f0_atv, ↓f1_nmv, ↓f1_atv, ↓Res.bind_ok, ↓kB_rt, ↓kB_nx, ↓kO_ro, ↓kR_rt, ↓kR_rtC, ↓kR_nx]

def m_led_clause_C1 : M D :=
  (eCall f_led_sign (eCons (eVar 1) (eCons (eVar 2) (pure []))))
def m_led_clause : M Fl :=
  (sRetC false (e1 gTup (eVl (eL (e1 gSortAbs (eVl (eL (eLc [2] ((eVar 0) >>= fun d => M.lift (asS d)) (setV 2) mYes m_led_clause_C1))))))))
def f_led_clause : List D → Res D := runB 3 m_led_clause
def g_led_clause_C1 (v1 : D) (d : D) : Res D :=
  (g_led_sign v1 d).bind fun x2 => .ok x2
theorem s_led_clause_C1 {β : Type} {v0 : D} {v1 : D} {ds : List D} (k : List D → En → Res β) : cps (lcIn [2] (setV 2) mYes m_led_clause_C1 ds) [.val v0, .val v1, .emp] k = (lcR (g_led_clause_C1 v1) ds).bind fun l => k l [.val v0, .val v1, .emp] :=
  c_lcR (env0 := [.val v0, .val v1, .emp]) rfl rfl rfl (fun _ _ _ => setV_exc) (by
    intro d γ k
    unfold m_led_clause_C1 g_led_clause_C1
    simp only [↓c_fl, ↓c_pd, ↓c_pl, ↓c_pb, ↓c_po, ↓c_yes, ↓sqC_nx, ↓sqC_rt, ↓sqC_ro, ↓p_asB, ↓p_asI, ↓p_asOI, ↓p_asSl, ↓p_asSt, ↓p_lenl, ↓p_lent, ↓p_tupl, ↓p_listl, ↓p_listt, ↓p_neg, ↓p_isi, ↓p_isis, ↓p_isN, ↓p_notN, ↓p_int, ↓Res.assoc, ↓bIf_bind, ↓lpK_bind, ↓rb_ok, ↓rb_exc, ↓rb_bad, ↓lpK_nx, ↓lpK_rt, ↓c_call, ↓c_cons, ↓f1_vrv, ↓f2_vrv, ↓f2_stV, ↓e_led_sign, wipeE_n, wipeE_c, List.set_cons_zero, List.set_cons_succ]) k
def g_led_clause (v0 : D) (v1 : D) : Res (D) :=
  (asS v0).bind fun x1 => (lcR (g_led_clause_C1 v1) x1).bind fun x3 => (gSortAbs (.list x3)).bind fun x4 => .ok (.tuple x4)
theorem e_led_clause (v0 : D) (v1 : D) : f_led_clause [v0, v1] = g_led_clause v0 v1 := by
  refine (runB_cps 3 m_led_clause [v0, v1]).trans ?_
  show cps m_led_clause [.val v0, .val v1, .emp] kB = _
  unfold m_led_clause g_led_clause
  simp only [↓c_fl, ↓c_pd, ↓c_pl, ↓c_pb, ↓c_po, ↓c_yes, ↓sqC_nx, ↓sqC_rt, ↓sqC_ro, ↓p_asB, ↓p_asI, ↓p_asOI, ↓p_asSl, ↓p_asSt, ↓p_lenl, ↓p_lent, ↓p_tupl, ↓p_listl, ↓p_listt, ↓p_neg, ↓p_isi, ↓p_isis, ↓p_isN, ↓p_notN, ↓p_int, ↓Res.assoc, ↓bIf_bind, ↓lpK_bind, ↓rb_ok, ↓rb_exc, ↓rb_bad, ↓lpK_nx, ↓lpK_rt, ↓c_e1, ↓c_L, ↓c_lc, ↓c_vl, ↓c_retC, ↓c_lift2, ↓c_lift, ↓f0_vrv, ↓f2_stV, ↓s_led_clause_C1, ↓Res.bind_ok, ↓kB_rt, ↓kB_nx, ↓kO_ro, ↓kR_rt, ↓kR_rtC, ↓kR_nx]

def m_led_riddle_C1 : M D :=
  (eCall f_led_clause (eCons (eVar 2) (eCons (eVar 1) (pure []))))
def m_led_riddle : M Fl :=
  (sRetC false (eTup (eCons (e2 dIx (eNm 0) (eVl (pure (.int 0)))) (eCons (e1 gTup (eVl (eL (e1 gSorted2 (eVl (eL (eLc [2] ((e2 dIx (eNm 0) (eVl (pure (.int 1)))) >>= fun d => M.lift (asS d)) (setV 2) mYes m_led_riddle_C1))))))) (pure [])))))
def f_led_riddle : List D → Res D := runB 3 m_led_riddle
def g_led_riddle_C1 (v1 : D) (d : D) : Res D :=
  (g_led_clause d v1).bind fun x4 => .ok x4
theorem s_led_riddle_C1 {β : Type} {v0 : D} {v1 : D} {ds : List D} (k : List D → En → Res β) : cps (lcIn [2] (setV 2) mYes m_led_riddle_C1 ds) [.val v0, .val v1, .emp] k = (lcR (g_led_riddle_C1 v1) ds).bind fun l => k l [.val v0, .val v1, .emp] :=
  c_lcR (env0 := [.val v0, .val v1, .emp]) rfl rfl rfl (fun _ _ _ => setV_exc) (by
    intro d γ k
    unfold m_led_riddle_C1 g_led_riddle_C1
    simp only [↓c_fl, ↓c_pd, ↓c_pl, ↓c_pb, ↓c_po, ↓c_yes, ↓sqC_nx, ↓sqC_rt, ↓sqC_ro, ↓p_asB, ↓p_asI, ↓p_asOI, ↓p_asSl, ↓p_asSt, ↓p_lenl, ↓p_lent, ↓p_tupl, ↓p_listl, ↓p_listt, ↓p_neg, ↓p_isi, ↓p_isis, ↓p_isN, ↓p_notN, ↓p_int, ↓Res.assoc, ↓bIf_bind, ↓lpK_bind, ↓rb_ok, ↓rb_exc, ↓rb_bad, ↓lpK_nx, ↓lpK_rt, ↓c_call, ↓c_cons, ↓f1_vrv, ↓f2_vrv, ↓f2_stV, ↓e_led_clause, wipeE_n, wipeE_c, List.set_cons_zero, List.set_cons_succ]) k
def g_led_riddle (v0 : D) (v1 : D) : Res (D) :=
  (dIx v0 (.int 0)).bind fun x1 => (dIx v0 (.int 1)).bind fun x2 => (asS x2).bind fun x3 => (lcR (g_led_riddle_C1 v1) x3).bind fun x5 => (gSorted2 (.list x5)).bind fun x6 => .ok (.tuple [x1, (.tuple x6)])
theorem e_led_riddle (v0 : D) (v1 : D) : f_led_riddle [v0, v1] = g_led_riddle v0 v1 := by
  refine (runB_cps 3 m_led_riddle [v0, v1]).trans ?_
  show cps m_led_riddle [.val v0, .val v1, .emp] kB = _
  unfold m_led_riddle g_led_riddle
  simp only [↓c_fl, ↓c_pd, ↓c_pl, ↓c_pb, ↓c_po, ↓c_yes, ↓sqC_nx, ↓sqC_rt, ↓sqC_ro, ↓p_asB, ↓p_asI, ↓p_asOI, ↓p_asSl, ↓p_asSt, ↓p_lenl, ↓p_lent, ↓p_tupl, ↓p_listl, ↓p_listt, ↓p_neg, ↓p_isi, ↓p_isis, ↓p_isN, ↓p_notN, ↓p_int, ↓Res.assoc, ↓bIf_bind, ↓lpK_bind, ↓rb_ok, ↓rb_exc, ↓rb_bad, ↓lpK_nx, ↓lpK_rt, ↓c_e1, ↓c_e2, ↓c_cons, ↓c_L, ↓c_lc, ↓c_tup, ↓c_vl, ↓c_retC, ↓c_lift2, ↓c_lift, ↓f0_nmv, ↓f0_atv, ↓f2_stV, ↓few2, ↓s_led_riddle_C1, ↓Res.bind_ok, ↓kB_rt, ↓kB_nx, ↓kO_ro, ↓kR_rt, ↓kR_rtC, ↓kR_nx]

def m_led : M Fl :=
  (sSeq (sDo (eCall f_need_turning (eCons (e2 dIx (eNm 0) (eVl (pure (.int 0)))) (eCons (eVar 1) (pure [])))))
  (sRetC false (eCall f_led_riddle (eCons (eVar 0) (eCons (eVar 1) (pure []))))))
def f_led : List D → Res D := runB 2 m_led
def g_led (v0 : D) (v1 : D) : Res (D) :=
  (dIx v0 (.int 0)).bind fun x1 => (g_need_turning x1 v1).bind fun x2 => g_led_riddle v0 v1
theorem e_led (v0 : D) (v1 : D) : f_led [v0, v1] = g_led v0 v1 := by
  refine (runB_cps 2 m_led [v0, v1]).trans ?_
  show cps m_led [.val v0, .val v1] kB = _
  unfold m_led g_led
  simp only [↓c_fl, ↓c_pd, ↓c_pl, ↓c_pb, ↓c_po, ↓c_yes, ↓sqC_nx, ↓sqC_rt, ↓sqC_ro, ↓p_asB, ↓p_asI, ↓p_asOI, ↓p_asSl, ↓p_asSt, ↓p_lenl, ↓p_lent, ↓p_tupl, ↓p_listl, ↓p_listt, ↓p_neg, ↓p_isi, ↓p_isis, ↓p_isN, ↓p_notN, ↓p_int, ↓Res.assoc, ↓bIf_bind, ↓lpK_bind, ↓rb_ok, ↓rb_exc, ↓rb_bad, ↓lpK_nx, ↓lpK_rt, ↓c_e2, ↓c_call, ↓c_cons, ↓c_vl, ↓c_do, ↓c_retC, ↓c_seq, ↓f0_nmv, ↓f0_atv, ↓f0_vrv, ↓f1_vrv, ↓e_led_riddle, ↓e_need_turning, ↓Res.bind_ok, ↓kB_rt, ↓kB_nx, ↓kO_ro, ↓kR_rt, ↓kR_rtC, ↓kR_nx]

def m_led_bits_A1 : M D :=
  (eIf (eB (e2 dGt (eNm 4) (eVl (pure (.int 0))))) (eVar 3) (e2 dSub (eVl (pure (.int 1))) (eNm 3)))
def m_led_bits_L1 : M Fl :=
  (sSeq (sSetIx 2 (eVl (e2 dSub (eVl (e1 gAbs (eNm 4))) (eVl (pure (.int 1))))) m_led_bits_A1)
  (sPre [] [3, 4] (pure .nx)))
def m_led_bits : M Fl :=
  (sSeq (sSetO 2 (e2 gRep (eVl (eL (eLst (eCons (pure (.int 0)) (pure []))))) (eVl (e1 gLen (eNm 0)))))
  (sSeq (sFor ((eVar 0) >>= fun d => (eVar 1) >>= fun e => M.lift (gZip d e)) (bdT [3, 4]) m_led_bits_L1)
  (sRetC false (e1 gTup (eNm 2)))))
def f_led_bits : List D → Res D := runB 5 m_led_bits
def g_led_bits_A1 (v3 : D) (v4 : D) : Res (D) :=
  (dGt v4 (.int 0)).bind fun x5 => (asB x5).bind fun x6 => bIf x6 (.ok v3) ((dSub (.int 1) v3).bind fun x7 => .ok x7)
theorem s_led_bits_A1 {β : Type} {v0 : D} {v1 : D} {v2 : List D} {v3 : D} {v4 : D} (k : D → En → Res β) : cps m_led_bits_A1 [.val v0, .val v1, .own v2, .val v3, .val v4] k = (g_led_bits_A1 v3 v4).bind fun y => k y [.val v0, .val v1, .own v2, .val v3, .val v4] := by
  unfold m_led_bits_A1 g_led_bits_A1
  simp only [↓c_fl, ↓c_pd, ↓c_pl, ↓c_pb, ↓c_po, ↓c_yes, ↓sqC_nx, ↓sqC_rt, ↓sqC_ro, ↓p_asB, ↓p_asI, ↓p_asOI, ↓p_asSl, ↓p_asSt, ↓p_lenl, ↓p_lent, ↓p_tupl, ↓p_listl, ↓p_listt, ↓p_neg, ↓p_isi, ↓p_isis, ↓p_isN, ↓p_notN, ↓p_int, ↓Res.assoc, ↓bIf_bind, ↓lpK_bind, ↓rb_ok, ↓rb_exc, ↓rb_bad, ↓lpK_nx, ↓lpK_rt, ↓c_e2, ↓c_eB, ↓c_eIf, ↓c_vl, ↓f3_nmv, ↓f3_atv, ↓f4_nmv, ↓f4_atv, ↓f3_vrv]
def g_led_bits_L1  (d : D) (s : List D) : Res (List D) :=
  (asT2 d).bind fun x4 => (g_led_bits_A1 x4.1 x4.2).bind fun x8 => (gAbs x4.2).bind fun x9 => (dSub x9 (.int 1)).bind fun x10 => setR s x10 x8
theorem s_led_bits_L1 {β : Type} {v0 : D} {v1 : D} {v2 : List D} {ds : List D} (k : Fl → En → Res β) : cps (forGo (bdT [3, 4]) m_led_bits_L1 ds) [.val v0, .val v1, .own v2, .emp, .emp] k = (foldR (g_led_bits_L1 ) ds v2).bind fun s' => k .nx [.val v0, .val v1, .own s', .emp, .emp] :=
  c_fold (fun s : List D => [.val v0, .val v1, .own s, .emp, .emp]) (g_led_bits_L1 ) (by
    intro d s γ k
    show (cps ((bdT [3, 4]) d) [.val v0, .val v1, .own s, .emp, .emp] fun _ ρ1 => cps m_led_bits_L1 ρ1 k) = _
    unfold m_led_bits_L1 g_led_bits_L1
    simp only [↓c_fl, ↓c_pd, ↓c_pl, ↓c_pb, ↓c_po, ↓c_yes, ↓sqC_nx, ↓sqC_rt, ↓sqC_ro, ↓p_asB, ↓p_asI, ↓p_asOI, ↓p_asSl, ↓p_asSt, ↓p_lenl, ↓p_lent, ↓p_tupl, ↓p_listl, ↓p_listt, ↓p_neg, ↓p_isi, ↓p_isis, ↓p_isN, ↓p_notN, ↓p_int, ↓Res.assoc, ↓bIf_bind, ↓lpK_bind, ↓rb_ok, ↓rb_exc, ↓rb_bad, ↓lpK_nx, ↓lpK_rt, ↓c_bdT2, ↓c_bdT3, ↓c_e1, ↓c_e2, ↓c_vl, ↓c_pre0, ↓c_seq, ↓c_setIx, ↓f4_nmv, ↓f4_atv, ↓f2_iso, ↓f2_six, ↓f3_stV, ↓f4_stV, ↓f3_wp, ↓f4_wp, ↓s_led_bits_A1]) ds v2 k
def g_led_bits (v0 : D) (v1 : D) : Res (D) :=
  (gLen v0).bind fun x1 => (gRep (.list [(.int 0)]) x1).bind fun x2 => (gZip v0 v1).bind fun x3 => (foldR g_led_bits_L1 x3 x2).bind fun x12 => .ok (.tuple x12)
theorem e_led_bits (v0 : D) (v1 : D) : f_led_bits [v0, v1] = g_led_bits v0 v1 := by
  refine (runB_cps 5 m_led_bits [v0, v1]).trans ?_
  show cps m_led_bits [.val v0, .val v1, .emp, .emp, .emp] kB = _
  unfold m_led_bits g_led_bits
  simp only [↓c_fl, ↓c_pd, ↓c_pl, ↓c_pb, ↓c_po, ↓c_yes, ↓sqC_nx, ↓sqC_rt, ↓sqC_ro, ↓p_asB, ↓p_asI, ↓p_asOI, ↓p_asSl, ↓p_asSt, ↓p_lenl, ↓p_lent, ↓p_tupl, ↓p_listl, ↓p_listt, ↓p_neg, ↓p_isi, ↓p_isis, ↓p_isN, ↓p_notN, ↓p_int, ↓Res.assoc, ↓bIf_bind, ↓lpK_bind, ↓rb_ok, ↓rb_exc, ↓rb_bad, ↓lpK_nx, ↓lpK_rt, ↓c_bdT2, ↓c_bdT3, ↓c_e1, ↓c_e2, ↓c_cons, ↓c_L, ↓c_lst, ↓c_vl, ↓c_for, ↓c_retC, ↓c_seq, ↓c_setO, ↓c_lift2, ↓c_lift, ↓f0_nmv, ↓f0_atv, ↓f2_nmv, ↓f2_atv, ↓f2_nmo, ↓f2_ato, ↓f0_vrv, ↓f1_vrv, ↓f2_stO, ↓f3_stV, ↓f4_stV, ↓few1, ↓s_led_bits_L1, ↓Res.bind_ok, ↓kB_rt, ↓kB_nx, ↓kO_ro, ↓kR_rt, ↓kR_rtC, ↓kR_nx]

def m_led_answer : M Fl :=
  (sSeq (sDo (eCall f_need_turning (eCons (e1 gLen (eNm 0)) (eCons (eVar 1) (pure [])))))
  (sRetC false (eCall f_led_bits (eCons (eVar 0) (eCons (eVar 1) (pure []))))))
def f_led_answer : List D → Res D := runB 2 m_led_answer
def g_led_answer (v0 : D) (v1 : D) : Res (D) :=
  (gLen v0).bind fun x1 => (g_need_turning x1 v1).bind fun x2 => g_led_bits v0 v1
theorem e_led_answer (v0 : D) (v1 : D) : f_led_answer [v0, v1] = g_led_answer v0 v1 := by
  refine (runB_cps 2 m_led_answer [v0, v1]).trans ?_
  show cps m_led_answer [.val v0, .val v1] kB = _
  unfold m_led_answer g_led_answer
  simp only [↓c_fl, ↓c_pd, ↓c_pl, ↓c_pb, ↓c_po, ↓c_yes, ↓sqC_nx, ↓sqC_rt, ↓sqC_ro, ↓p_asB, ↓p_asI, ↓p_asOI, ↓p_asSl, ↓p_asSt, ↓p_lenl, ↓p_lent, ↓p_tupl, ↓p_listl, ↓p_listt, ↓p_neg, ↓p_isi, ↓p_isis, ↓p_isN, ↓p_notN, ↓p_int, ↓Res.assoc, ↓bIf_bind, ↓lpK_bind, ↓rb_ok, ↓rb_exc, ↓rb_bad, ↓lpK_nx, ↓lpK_rt, ↓c_e1, ↓c_call, ↓c_cons, ↓c_do, ↓c_retC, ↓c_seq, ↓f0_nmv, ↓f0_atv, ↓f0_vrv, ↓f1_vrv, ↓e_led_bits, ↓e_need_turning, ↓Res.bind_ok, ↓kB_rt, ↓kB_nx, ↓kO_ro, ↓kR_rt, ↓kR_rtC, ↓kR_nx]

def m_behind_C1 : M D :=
  (eCall f_led_sign (eCons (eVar 1) (eCons (eVar 2) (pure []))))
def m_behind : M Fl :=
  (sRetC false (e1 gTup (eVl (eL (eLc [2] ((eVar 0) >>= fun d => M.lift (asS d)) (setV 2) mYes m_behind_C1)))))
def f_behind : List D → Res D := runB 3 m_behind
def g_behind_C1 (v1 : D) (d : D) : Res D :=
  (g_led_sign v1 d).bind fun x2 => .ok x2
theorem s_behind_C1 {β : Type} {v0 : D} {v1 : D} {ds : List D} (k : List D → En → Res β) : cps (lcIn [2] (setV 2) mYes m_behind_C1 ds) [.val v0, .val v1, .emp] k = (lcR (g_behind_C1 v1) ds).bind fun l => k l [.val v0, .val v1, .emp] :=
  c_lcR (env0 := [.val v0, .val v1, .emp]) rfl rfl rfl (fun _ _ _ => setV_exc) (by
    intro d γ k
    unfold m_behind_C1 g_behind_C1
    simp only [↓c_fl, ↓c_pd, ↓c_pl, ↓c_pb, ↓c_po, ↓c_yes, ↓sqC_nx, ↓sqC_rt, ↓sqC_ro, ↓p_asB, ↓p_asI, ↓p_asOI, ↓p_asSl, ↓p_asSt, ↓p_lenl, ↓p_lent, ↓p_tupl, ↓p_listl, ↓p_listt, ↓p_neg, ↓p_isi, ↓p_isis, ↓p_isN, ↓p_notN, ↓p_int, ↓Res.assoc, ↓bIf_bind, ↓lpK_bind, ↓rb_ok, ↓rb_exc, ↓rb_bad, ↓lpK_nx, ↓lpK_rt, ↓c_call, ↓c_cons, ↓f1_vrv, ↓f2_vrv, ↓f2_stV, ↓e_led_sign, wipeE_n, wipeE_c, List.set_cons_zero, List.set_cons_succ]) k
def g_behind (v0 : D) (v1 : D) : Res (D) :=
  (asS v0).bind fun x1 => (lcR (g_behind_C1 v1) x1).bind fun x3 => .ok (.tuple x3)
theorem e_behind (v0 : D) (v1 : D) : f_behind [v0, v1] = g_behind v0 v1 := by
  refine (runB_cps 3 m_behind [v0, v1]).trans ?_
  show cps m_behind [.val v0, .val v1, .emp] kB = _
  unfold m_behind g_behind
  simp only [↓c_fl, ↓c_pd, ↓c_pl, ↓c_pb, ↓c_po, ↓c_yes, ↓sqC_nx, ↓sqC_rt, ↓sqC_ro, ↓p_asB, ↓p_asI, ↓p_asOI, ↓p_asSl, ↓p_asSt, ↓p_lenl, ↓p_lent, ↓p_tupl, ↓p_listl, ↓p_listt, ↓p_neg, ↓p_isi, ↓p_isis, ↓p_isN, ↓p_notN, ↓p_int, ↓Res.assoc, ↓bIf_bind, ↓lpK_bind, ↓rb_ok, ↓rb_exc, ↓rb_bad, ↓lpK_nx, ↓lpK_rt, ↓c_e1, ↓c_L, ↓c_lc, ↓c_vl, ↓c_retC, ↓c_lift2, ↓c_lift, ↓f0_vrv, ↓f2_stV, ↓s_behind_C1, ↓Res.bind_ok, ↓kB_rt, ↓kB_nx, ↓kO_ro, ↓kR_rt, ↓kR_rtC, ↓kR_nx]

def m_back_A1 : M D :=
  (eIf (eB (e2 dGt (eNm 3) (eVl (pure (.int 0))))) (e2 dAddL (eNm 2) (eVl (pure (.int 1)))) (e2 dSub (eVl (e2 dSub (eVl (pure (.int 0))) (eNm 2))) (eVl (pure (.int 1)))))
def m_back_L1 : M Fl :=
  (sSeq (sSetIx 1 (eVl (e2 dSub (eVl (e1 gAbs (eNm 3))) (eVl (pure (.int 1))))) m_back_A1)
  (sPre [] [2, 3] (pure .nx)))
def m_back : M Fl :=
  (sSeq (sSetO 1 (e2 gRep (eVl (eL (eLst (eCons (pure (.int 0)) (pure []))))) (eVl (e1 gLen (eNm 0)))))
  (sSeq (sFor ((eVar 0) >>= fun d => M.lift (gEnum 0 d)) (bdT [2, 3]) m_back_L1)
  (sRetC false (e1 gTup (eNm 1)))))
def f_back : List D → Res D := runB 4 m_back
def g_back_A1 (v2 : D) (v3 : D) : Res (D) :=
  (dGt v3 (.int 0)).bind fun x5 => (asB x5).bind fun x6 => bIf x6 ((dAddL v2 (.int 1)).bind fun x7 => .ok x7) ((dSub (.int 0) v2).bind fun x8 => (dSub x8 (.int 1)).bind fun x9 => .ok x9)
theorem s_back_A1 {β : Type} {v0 : D} {v1 : List D} {v2 : D} {v3 : D} (k : D → En → Res β) : cps m_back_A1 [.val v0, .own v1, .val v2, .val v3] k = (g_back_A1 v2 v3).bind fun y => k y [.val v0, .own v1, .val v2, .val v3] := by
  unfold m_back_A1 g_back_A1
  simp only [↓c_fl, ↓c_pd, ↓c_pl, ↓c_pb, ↓c_po, ↓c_yes, ↓sqC_nx, ↓sqC_rt, ↓sqC_ro, ↓p_asB, ↓p_asI, ↓p_asOI, ↓p_asSl, ↓p_asSt, ↓p_lenl, ↓p_lent, ↓p_tupl, ↓p_listl, ↓p_listt, ↓p_neg, ↓p_isi, ↓p_isis, ↓p_isN, ↓p_notN, ↓p_int, ↓Res.assoc, ↓bIf_bind, ↓lpK_bind, ↓rb_ok, ↓rb_exc, ↓rb_bad, ↓lpK_nx, ↓lpK_rt, ↓c_e2, ↓c_eB, ↓c_eIf, ↓c_vl, ↓f2_nmv, ↓f2_atv, ↓f3_nmv, ↓f3_atv]
def g_back_L1  (d : D) (s : List D) : Res (List D) :=
  (asT2 d).bind fun x4 => (g_back_A1 x4.1 x4.2).bind fun x10 => (gAbs x4.2).bind fun x11 => (dSub x11 (.int 1)).bind fun x12 => setR s x12 x10
theorem s_back_L1 {β : Type} {v0 : D} {v1 : List D} {ds : List D} (k : Fl → En → Res β) : cps (forGo (bdT [2, 3]) m_back_L1 ds) [.val v0, .own v1, .emp, .emp] k = (foldR (g_back_L1 ) ds v1).bind fun s' => k .nx [.val v0, .own s', .emp, .emp] :=
  c_fold (fun s : List D => [.val v0, .own s, .emp, .emp]) (g_back_L1 ) (by
    intro d s γ k
    show (cps ((bdT [2, 3]) d) [.val v0, .own s, .emp, .emp] fun _ ρ1 => cps m_back_L1 ρ1 k) = _
    unfold m_back_L1 g_back_L1
    simp only [↓c_fl, ↓c_pd, ↓c_pl, ↓c_pb, ↓c_po, ↓c_yes, ↓sqC_nx, ↓sqC_rt, ↓sqC_ro, ↓p_asB, ↓p_asI, ↓p_asOI, ↓p_asSl, ↓p_asSt, ↓p_lenl, ↓p_lent, ↓p_tupl, ↓p_listl, ↓p_listt, ↓p_neg, ↓p_isi, ↓p_isis, ↓p_isN, ↓p_notN, ↓p_int, ↓Res.assoc, ↓bIf_bind, ↓lpK_bind, ↓rb_ok, ↓rb_exc, ↓rb_bad, ↓lpK_nx, ↓lpK_rt, ↓c_bdT2, ↓c_bdT3, ↓c_e1, ↓c_e2, ↓c_vl, ↓c_pre0, ↓c_seq, ↓c_setIx, ↓f3_nmv, ↓f3_atv, ↓f1_iso, ↓f1_six, ↓f2_stV, ↓f3_stV, ↓f2_wp, ↓f3_wp, ↓s_back_A1]) ds v1 k
def g_back (v0 : D) : Res (D) :=
  (gLen v0).bind fun x1 => (gRep (.list [(.int 0)]) x1).bind fun x2 => (gEnum 0 v0).bind fun x3 => (foldR g_back_L1 x3 x2).bind fun x14 => .ok (.tuple x14)
theorem e_back (v0 : D) : f_back [v0] = g_back v0 := by
  refine (runB_cps 4 m_back [v0]).trans ?_
  show cps m_back [.val v0, .emp, .emp, .emp] kB = _
  unfold m_back g_back
  simp only [↓c_fl, ↓c_pd, ↓c_pl, ↓c_pb, ↓c_po, ↓c_yes, ↓sqC_nx, ↓sqC_rt, ↓sqC_ro, ↓p_asB, ↓p_asI, ↓p_asOI, ↓p_asSl, ↓p_asSt, ↓p_lenl, ↓p_lent, ↓p_tupl, ↓p_listl, ↓p_listt, ↓p_neg, ↓p_isi, ↓p_isis, ↓p_isN, ↓p_notN, ↓p_int, ↓Res.assoc, ↓bIf_bind, ↓lpK_bind, ↓rb_ok, ↓rb_exc, ↓rb_bad, ↓lpK_nx, ↓lpK_rt, ↓c_bdT2, ↓c_bdT3, ↓c_e1, ↓c_e2, ↓c_cons, ↓c_L, ↓c_lst, ↓c_vl, ↓c_for, ↓c_retC, ↓c_seq, ↓c_setO, ↓c_lift2, ↓c_lift, ↓f0_nmv, ↓f0_atv, ↓f1_nmv, ↓f1_atv, ↓f1_nmo, ↓f1_ato, ↓f0_vrv, ↓f1_stO, ↓f2_stV, ↓f3_stV, ↓few1, ↓s_back_L1, ↓Res.bind_ok, ↓kB_rt, ↓kB_nx, ↓kO_ro, ↓kR_rt, ↓kR_rtC, ↓kR_nx]

def m_still : M Fl :=
  (sRetC false ((eRg2 (eVl (pure (.int 1))) (eVl (e2 dAddL (eNm 0) (eVl (pure (.int 1)))))) >>= fun p => M.lift (gRgT p)))
def f_still : List D → Res D := runB 1 m_still
def g_still (v0 : D) : Res (D) :=
  (dAddL v0 (.int 1)).bind fun x1 => (asI x1).bind fun x2 => gRgT (1, x2)
theorem e_still (v0 : D) : f_still [v0] = g_still v0 := by
  refine (runB_cps 1 m_still [v0]).trans ?_
  show cps m_still [.val v0] kB = _
  unfold m_still g_still
  simp only [↓c_fl, ↓c_pd, ↓c_pl, ↓c_pb, ↓c_po, ↓c_yes, ↓sqC_nx, ↓sqC_rt, ↓sqC_ro, ↓p_asB, ↓p_asI, ↓p_asOI, ↓p_asSl, ↓p_asSt, ↓p_lenl, ↓p_lent, ↓p_tupl, ↓p_listl, ↓p_listt, ↓p_neg, ↓p_isi, ↓p_isis, ↓p_isN, ↓p_notN, ↓p_int, ↓Res.assoc, ↓bIf_bind, ↓lpK_bind, ↓rb_ok, ↓rb_exc, ↓rb_bad, ↓lpK_nx, ↓lpK_rt, ↓c_e2, ↓c_rg2, ↓c_vl, ↓c_retC, ↓c_lift2, ↓c_lift, ↓f0_nmv, ↓f0_atv, ↓Res.bind_ok, ↓kB_rt, ↓kB_nx, ↓kO_ro, ↓kR_rt, ↓kR_rtC, ↓kR_nx]

def m_order_of_W1 : M Fl :=
  (sSeq (sSet 2 (eCall f_behind (eCons (eVar 2) (eCons (eVar 0) (pure [])))))
  (sSet 1 (e2 dAddL (eNm 1) (eVl (pure (.int 1))))))
def m_order_of_W1t : M Bool :=
  (eB (e2 dNe (eNm 2) (eVl (eCall f_still (eCons (e1 gLen (eNm 0)) (pure []))))))
def m_order_of : M Fl :=
  (sSeq (sSet 1 (pure (.int 1)))
  (sSeq (sSet 2 (eVar 0))
  (sSeq (whGo m_order_of_W1t m_order_of_W1 fuel)
  (sRetC false (eVar 1)))))
def f_order_of : List D → Res D := runB 3 m_order_of
def g_order_of_W1t (v0 : D) (s : D × D) : Res Bool :=
  (gLen v0).bind fun x1 => (g_still x1).bind fun x2 => (dNe s.2 x2).bind fun x3 => asB x3
def g_order_of_W1 (v0 : D) (s : D × D) : Res (D × D) :=
  (g_behind s.2 v0).bind fun x5 => (dAddL s.1 (.int 1)).bind fun x6 => .ok (x6, x5)
theorem s_order_of_W1 {β : Type} {v0 : D} {v1 : D} {v2 : D} {n : Nat} (k : Fl → En → Res β) : cps (whGo m_order_of_W1t m_order_of_W1 n) [.val v0, .val v1, .val v2] k = (whR (g_order_of_W1t v0) (g_order_of_W1 v0) n (v1, v2)).bind fun s' => k .nx [.val v0, .val s'.1, .val s'.2] :=
  c_while (fun s : D × D => [.val v0, .val s.1, .val s.2]) (g_order_of_W1t v0) (g_order_of_W1 v0) (by
    intro s γ k
    show cps m_order_of_W1t [.val v0, .val s.1, .val s.2] k = _
    unfold m_order_of_W1t g_order_of_W1t
    simp only [↓c_fl, ↓c_pd, ↓c_pl, ↓c_pb, ↓c_po, ↓c_yes, ↓sqC_nx, ↓sqC_rt, ↓sqC_ro, ↓p_asB, ↓p_asI, ↓p_asOI, ↓p_asSl, ↓p_asSt, ↓p_lenl, ↓p_lent, ↓p_tupl, ↓p_listl, ↓p_listt, ↓p_neg, ↓p_isi, ↓p_isis, ↓p_isN, ↓p_notN, ↓p_int, ↓Res.assoc, ↓bIf_bind, ↓lpK_bind, ↓rb_ok, ↓rb_exc, ↓rb_bad, ↓lpK_nx, ↓lpK_rt, ↓c_e1, ↓c_e2, ↓c_eB, ↓c_call, ↓c_cons, ↓c_vl, ↓f0_nmv, ↓f0_atv, ↓f2_nmv, ↓f2_atv, ↓e_still]) (by
    intro s γ k
    show cps m_order_of_W1 [.val v0, .val s.1, .val s.2] k = _
    unfold m_order_of_W1 g_order_of_W1
    simp only [↓c_fl, ↓c_pd, ↓c_pl, ↓c_pb, ↓c_po, ↓c_yes, ↓sqC_nx, ↓sqC_rt, ↓sqC_ro, ↓p_asB, ↓p_asI, ↓p_asOI, ↓p_asSl, ↓p_asSt, ↓p_lenl, ↓p_lent, ↓p_tupl, ↓p_listl, ↓p_listt, ↓p_neg, ↓p_isi, ↓p_isis, ↓p_isN, ↓p_notN, ↓p_int, ↓Res.assoc, ↓bIf_bind, ↓lpK_bind, ↓rb_ok, ↓rb_exc, ↓rb_bad, ↓lpK_nx, ↓lpK_rt, ↓c_e2, ↓c_call, ↓c_cons, ↓c_vl, ↓c_seq, ↓c_set, ↓f1_nmv, ↓f1_atv, ↓f0_vrv, ↓f2_vrv, ↓f1_stV, ↓f2_stV, ↓e_behind]) n (v1, v2) k
def g_order_of (v0 : D) : Res (D) :=
  (whR (g_order_of_W1t v0) (g_order_of_W1 v0) fuel ((.int 1), v0)).bind fun x7 => .ok x7.1
theorem e_order_of (v0 : D) : f_order_of [v0] = g_order_of v0 := by
  refine (runB_cps 3 m_order_of [v0]).trans ?_
  show cps m_order_of [.val v0, .emp, .emp] kB = _
  unfold m_order_of g_order_of
  simp only [↓c_fl, ↓c_pd, ↓c_pl, ↓c_pb, ↓c_po, ↓c_yes, ↓sqC_nx, ↓sqC_rt, ↓sqC_ro, ↓p_asB, ↓p_asI, ↓p_asOI, ↓p_asSl, ↓p_asSt, ↓p_lenl, ↓p_lent, ↓p_tupl, ↓p_listl, ↓p_listt, ↓p_neg, ↓p_isi, ↓p_isis, ↓p_isN, ↓p_notN, ↓p_int, ↓Res.assoc, ↓bIf_bind, ↓lpK_bind, ↓rb_ok, ↓rb_exc, ↓rb_bad, ↓lpK_nx, ↓lpK_rt, ↓c_retC, ↓c_seq, ↓c_set, ↓f0_vrv, ↓f1_vrv, ↓f1_stV, ↓f2_stV, ↓s_order_of_W1, ↓Res.bind_ok, ↓kB_rt, ↓kB_nx, ↓kO_ro, ↓kR_rt, ↓kR_rtC, ↓kR_nx]

def m__law_cell_at : M Fl :=
  (sSeq (sIf (eB (e2 dLt (eNm 1) (eVl (eLenS 0)))) (sRetC false (eIxS 0 (eNm 1))) (pure .nx))
  (sRetC false (pure (.int 0))))
def f__law_cell_at : List Int → List D → Res D := runSV 2 m__law_cell_at
def g__law_cell_at (v0 : List Int) (v1 : D) : Res (D) := nxR (
  (dLt v1 (.int v0.length)).bind fun x1 => (asB x1).bind fun x2 => bIf x2 ((asI v1).bind fun x3 => atS v0 x3) (.ok (.int 0)))
theorem e__law_cell_at (v0 : List Int) (v1 : D) : f__law_cell_at v0 [v1] = g__law_cell_at v0 v1 := by
  refine (runSV_cps 2 m__law_cell_at v0 [v1]).trans (congrArg nxR ?_)
  show cps m__law_cell_at [.scr v0, .val v1] kB = _
  unfold m__law_cell_at
  simp only [↓c_fl, ↓c_pd, ↓c_pl, ↓c_pb, ↓c_po, ↓c_yes, ↓sqC_nx, ↓sqC_rt, ↓sqC_ro, ↓p_asB, ↓p_asI, ↓p_asOI, ↓p_asSl, ↓p_asSt, ↓p_lenl, ↓p_lent, ↓p_tupl, ↓p_listl, ↓p_listt, ↓p_neg, ↓p_isi, ↓p_isis, ↓p_isN, ↓p_notN, ↓p_int, ↓Res.assoc, ↓bIf_bind, ↓lpK_bind, ↓rb_ok, ↓rb_exc, ↓rb_bad, ↓lpK_nx, ↓lpK_rt, ↓c_e2, ↓c_eB, ↓c_ixS, ↓f0_scr, ↓c_lenS, ↓c_vl, ↓c_if, ↓c_retC, ↓c_seq, ↓f1_nmv, ↓f1_atv, ↓Res.bind_ok, ↓kB_rt, ↓kB_nx, ↓kO_ro, ↓kR_rt, ↓kR_rtC, ↓kR_nx]
theorem xe__law_cell_at (v0 : List Int) (v1 : D) {β : Type} (k : D → Res β) : (nxR (f__law_cell_at v0 [v1])).bind k = (g__law_cell_at v0 v1).bind k := by
  rw [e__law_cell_at]; unfold g__law_cell_at; rw [nxR_nxR]

def m__law_state : M Fl :=
  (sSeq (sSet 2 (eCallSV 0 f__law_cell_at (eCons (eVar 1) (pure []))))
  (sSeq (sIf (eB (e2 dGe (eNm 2) (eVl (e2 dPow (eVl (pure (.int 10))) (eVl (pure (.int 18))))))) (sRetOC false (eLst (eCons (e2 dSub (eNm 2) (eVl (e2 dPow (eVl (pure (.int 10))) (eVl (pure (.int 18)))))) (eCons (pure (.bool true)) (pure []))))) (pure .nx))
  (sRetOC false (eLst (eCons (e2 dMod (eNm 2) (eVl (pure (.int 2147483647)))) (eCons (pure (.bool false)) (pure [])))))))
def f__law_state : List Int → List D → Res (List D) := runSO 3 m__law_state
def g__law_state (v0 : List Int) (v1 : D) : Res (List D) := nxR (
  (g__law_cell_at v0 v1).bind fun x1 => (dPow (.int 10) (.int 18)).bind fun x2 => (dGe x1 x2).bind fun x3 => (asB x3).bind fun x4 => bIf x4 ((dPow (.int 10) (.int 18)).bind fun x5 => (dSub x1 x5).bind fun x6 => .ok [x6, (.bool true)]) ((dMod x1 (.int 2147483647)).bind fun x7 => .ok [x7, (.bool false)]))
theorem e__law_state (v0 : List Int) (v1 : D) : f__law_state v0 [v1] = g__law_state v0 v1 := by
  refine (runSO_cps 3 m__law_state v0 [v1]).trans (congrArg nxR ?_)
  show cps m__law_state [.scr v0, .val v1, .emp] kO = _
  unfold m__law_state
  simp only [↓c_fl, ↓c_pd, ↓c_pl, ↓c_pb, ↓c_po, ↓c_yes, ↓sqC_nx, ↓sqC_rt, ↓sqC_ro, ↓p_asB, ↓p_asI, ↓p_asOI, ↓p_asSl, ↓p_asSt, ↓p_lenl, ↓p_lent, ↓p_tupl, ↓p_listl, ↓p_listt, ↓p_neg, ↓p_isi, ↓p_isis, ↓p_isN, ↓p_notN, ↓p_int, ↓Res.assoc, ↓bIf_bind, ↓lpK_bind, ↓rb_ok, ↓rb_exc, ↓rb_bad, ↓lpK_nx, ↓lpK_rt, ↓c_e2, ↓c_eB, ↓c_callSV, ↓f0_scr, ↓c_cons, ↓c_lst, ↓c_vl, ↓c_if, ↓c_retOC, ↓c_seq, ↓c_set, ↓f2_nmv, ↓f2_atv, ↓f1_vrv, ↓f2_stV, ↓few2, ↓xe__law_cell_at, ↓Res.bind_ok, ↓kB_rt, ↓kB_nx, ↓kO_ro, ↓kR_rt, ↓kR_rtC, ↓kR_nx]
theorem xe__law_state (v0 : List Int) (v1 : D) {β : Type} (k : List D → Res β) : (nxR (f__law_state v0 [v1])).bind k = (g__law_state v0 v1).bind k := by
  rw [e__law_state]; unfold g__law_state; rw [nxR_nxR]

def m__law_take : M Fl :=
  (sSeq (sIf (eB (e2 dIx (eNm 0) (eVl (pure (.int 1))))) (sSeq (sSet 3 (e2 dMod (eVl (e2 dIx (eNm 0) (eVl (pure (.int 0))))) (eNm 1)))
  (sSeq (sSetIx 0 (eVl (pure (.int 0))) (e2 dDiv (eVl (e2 dIx (eNm 0) (eVl (pure (.int 0))))) (eNm 1)))
  (sRetC true (eVar 3)))) (pure .nx))
  (sSeq (sSetIx 0 (eVl (pure (.int 0))) (e2 dMod (eVl (e2 dAddL (eVl (e2 dMul (eVl (e2 dIx (eNm 0) (eVl (pure (.int 0))))) (eVl (pure (.int 48271))))) (eVl (pure (.int 29))))) (eVl (pure (.int 2147483647)))))
  (sSeq (sSet 2 (e2 dMod (eVl (e2 dAddL (eVl (e2 dAddL (eVl (e2 dMul (eVl (e2 dIx (eNm 0) (eVl (pure (.int 0))))) (eVl (e2 dIx (eNm 0) (eVl (pure (.int 0))))))) (eVl (e2 dMul (eVl (pure (.int 39373))) (eVl (e2 dIx (eNm 0) (eVl (pure (.int 0))))))))) (eVl (pure (.int 7))))) (eVl (pure (.int 2147483629)))))
  (sSeq (sSet 2 (e2 dMod (eVl (e2 dAddL (eVl (e2 dMul (eNm 2) (eNm 2))) (eVl (e2 dMul (eVl (pure (.int 16807))) (eNm 2))))) (eVl (pure (.int 2147483587)))))
  (sRetC true (e2 dMod (eVl (e2 dDiv (eNm 2) (eVl (pure (.int 8))))) (eNm 1)))))))
def f__law_take : List D → List D → Res (D × List D) := runR 4 m__law_take
def g__law_take (v0 : List D) (v1 : D) : Res (D × List D) := nxR (
  (dIx (.list v0) (.int 1)).bind fun x1 => (asB x1).bind fun x2 => bIf x2 ((dIx (.list v0) (.int 0)).bind fun x3 => (dMod x3 v1).bind fun x4 => (dIx (.list v0) (.int 0)).bind fun x5 => (dDiv x5 v1).bind fun x6 => (setR v0 (.int 0) x6).bind fun x7 => .ok (x4, x7)) ((dIx (.list v0) (.int 0)).bind fun x8 => (dMul x8 (.int 48271)).bind fun x9 => (dAddL x9 (.int 29)).bind fun x10 => (dMod x10 (.int 2147483647)).bind fun x11 => (setR v0 (.int 0) x11).bind fun x12 => (dIx (.list x12) (.int 0)).bind fun x13 => (dIx (.list x12) (.int 0)).bind fun x14 => (dMul x13 x14).bind fun x15 => (dIx (.list x12) (.int 0)).bind fun x16 => (dMul (.int 39373) x16).bind fun x17 => (dAddL x15 x17).bind fun x18 => (dAddL x18 (.int 7)).bind fun x19 => (dMod x19 (.int 2147483629)).bind fun x20 => (dMul x20 x20).bind fun x21 => (dMul (.int 16807) x20).bind fun x22 => (dAddL x21 x22).bind fun x23 => (dMod x23 (.int 2147483587)).bind fun x24 => (dDiv x24 (.int 8)).bind fun x25 => (dMod x25 v1).bind fun x26 => .ok (x26, x12)))
theorem e__law_take (v0 : List D) (v1 : D) : f__law_take v0 [v1] = g__law_take v0 v1 := by
  refine (runR_cps 4 m__law_take v0 [v1]).trans (congrArg nxR ?_)
  show cps m__law_take [.own v0, .val v1, .emp, .emp] kR = _
  unfold m__law_take
  simp only [↓c_fl, ↓c_pd, ↓c_pl, ↓c_pb, ↓c_po, ↓c_yes, ↓sqC_nx, ↓sqC_rt, ↓sqC_ro, ↓p_asB, ↓p_asI, ↓p_asOI, ↓p_asSl, ↓p_asSt, ↓p_lenl, ↓p_lent, ↓p_tupl, ↓p_listl, ↓p_listt, ↓p_neg, ↓p_isi, ↓p_isis, ↓p_isN, ↓p_notN, ↓p_int, ↓Res.assoc, ↓bIf_bind, ↓lpK_bind, ↓rb_ok, ↓rb_exc, ↓rb_bad, ↓lpK_nx, ↓lpK_rt, ↓c_e2, ↓c_eB, ↓c_vl, ↓c_if, ↓c_retC, ↓c_seq, ↓c_set, ↓c_setIx, ↓f0_nmv, ↓f0_atv, ↓f0_nmo, ↓f0_ato, ↓f1_nmv, ↓f1_atv, ↓f2_nmv, ↓f2_atv, ↓f3_vrv, ↓f2_stV, ↓f3_stV, ↓f0_iso, ↓f0_six, ↓Res.bind_ok, ↓kB_rt, ↓kB_nx, ↓kO_ro, ↓kR_rt, ↓kR_rtC, ↓kR_nx]
theorem xe__law_take (v0 : List D) (v1 : D) {β : Type} (k : D × List D → Res β) : (nxR (f__law_take v0 [v1])).bind k = (g__law_take v0 v1).bind k := by
  rw [e__law_take]; unfold g__law_take; rw [nxR_nxR]

def m__law_turning_L1 : M Fl :=
  (sSeq (sApp' 3 (e2 dMul (eVl (ePopAt 2 (eCallR 0 f__law_take (eCons (e1 gLen (eNm 2)) (pure []))))) (eVl (e2 dIx (eVl (eL (eLst (eCons (pure (.int 1)) (eCons (e1 dNeg (eVl (pure (.int 1)))) (pure [])))))) (eVl (eCallR 0 f__law_take (eCons (pure (.int 2)) (pure []))))))))
  (sPre [] [4] (pure .nx)))
def m__law_turning : M Fl :=
  (sSeq (sSetO 2 ((eRg2 (eVl (pure (.int 1))) (eVl (e2 dAddL (eNm 1) (eVl (pure (.int 1)))))) >>= fun p => M.lift (gRgL p)))
  (sSeq (sSetO 3 (eLst (pure [])))
  (sSeq (sFor (eRg1 (eNm 1) >>= fun p => M.lift (gRg p)) (setV 4) m__law_turning_L1)
  (sRetC true (e1 gTup (eNm 3))))))
def f__law_turning : List D → List D → Res (D × List D) := runR 5 m__law_turning
def g__law_turning_L1  (d : D) (s : List D × List D × List D) : Res (List D × List D × List D) :=
  (g__law_take s.1 (.int s.2.1.length)).bind fun x6 => (popAtR s.2.1 x6.1).bind fun x7 => (g__law_take x6.2 (.int 2)).bind fun x8 => (dIx (.list [(.int 1), (.int (-1))]) x8.1).bind fun x9 => (dMul x7.1 x9).bind fun x10 => (appR s.2.2 x10).bind fun x11 => .ok (x8.2, x7.2, x11)
theorem s__law_turning_L1 {β : Type} {v0 : List D} {v1 : D} {v2 : List D} {v3 : List D} {ds : List D} (k : Fl → En → Res β) : cps (forGo (setV 4) m__law_turning_L1 ds) [.own v0, .val v1, .own v2, .own v3, .emp] k = (foldR (g__law_turning_L1 ) ds (v0, v2, v3)).bind fun s' => k .nx [.own s'.1, .val v1, .own s'.2.1, .own s'.2.2, .emp] :=
  c_fold (fun s : List D × List D × List D => [.own s.1, .val v1, .own s.2.1, .own s.2.2, .emp]) (g__law_turning_L1 ) (by
    intro d s γ k
    show (cps ((setV 4) d) [.own s.1, .val v1, .own s.2.1, .own s.2.2, .emp] fun _ ρ1 => cps m__law_turning_L1 ρ1 k) = _
    unfold m__law_turning_L1 g__law_turning_L1
    simp only [↓c_fl, ↓c_pd, ↓c_pl, ↓c_pb, ↓c_po, ↓c_yes, ↓sqC_nx, ↓sqC_rt, ↓sqC_ro, ↓p_asB, ↓p_asI, ↓p_asOI, ↓p_asSl, ↓p_asSt, ↓p_lenl, ↓p_lent, ↓p_tupl, ↓p_listl, ↓p_listt, ↓p_neg, ↓p_isi, ↓p_isis, ↓p_isN, ↓p_notN, ↓p_int, ↓Res.assoc, ↓bIf_bind, ↓lpK_bind, ↓rb_ok, ↓rb_exc, ↓rb_bad, ↓lpK_nx, ↓lpK_rt, ↓c_e1, ↓c_e2, ↓c_callR, ↓c_cons, ↓c_L, ↓c_lst, ↓c_popAt, ↓c_vl, ↓c_app, ↓c_pre0, ↓c_seq, ↓f0_iso, ↓f0_cal, ↓f2_nmv, ↓f2_atv, ↓f2_nmo, ↓f2_ato, ↓f2_iso, ↓f2_poa, ↓f3_iso, ↓f3_app, ↓f4_stV, ↓f4_wp, ↓few2, ↓xe__law_take]) ds (v0, v2, v3) k
def g__law_turning (v0 : List D) (v1 : D) : Res (D × List D) := nxR (
  (dAddL v1 (.int 1)).bind fun x1 => (asI x1).bind fun x2 => (gRgL (1, x2)).bind fun x3 => (asI v1).bind fun x4 => (gRg (0, x4)).bind fun x5 => (foldR g__law_turning_L1 x5 (v0, x3, [])).bind fun x12 => .ok ((.tuple x12.2.2), x12.1))
theorem e__law_turning (v0 : List D) (v1 : D) : f__law_turning v0 [v1] = g__law_turning v0 v1 := by
  refine (runR_cps 5 m__law_turning v0 [v1]).trans (congrArg nxR ?_)
  show cps m__law_turning [.own v0, .val v1, .emp, .emp, .emp] kR = _
  unfold m__law_turning
  simp only [↓c_fl, ↓c_pd, ↓c_pl, ↓c_pb, ↓c_po, ↓c_yes, ↓sqC_nx, ↓sqC_rt, ↓sqC_ro, ↓p_asB, ↓p_asI, ↓p_asOI, ↓p_asSl, ↓p_asSt, ↓p_lenl, ↓p_lent, ↓p_tupl, ↓p_listl, ↓p_listt, ↓p_neg, ↓p_isi, ↓p_isis, ↓p_isN, ↓p_notN, ↓p_int, ↓Res.assoc, ↓bIf_bind, ↓lpK_bind, ↓rb_ok, ↓rb_exc, ↓rb_bad, ↓lpK_nx, ↓lpK_rt, ↓c_e1, ↓c_e2, ↓c_lst, ↓c_rg1, ↓c_rg2, ↓c_vl, ↓c_for, ↓c_retC, ↓c_seq, ↓c_setO, ↓c_lift2, ↓c_lift, ↓f1_nmv, ↓f1_atv, ↓f3_nmv, ↓f3_atv, ↓f3_nmo, ↓f3_ato, ↓f2_stO, ↓f3_stO, ↓f4_stV, ↓few0, ↓few2, ↓s__law_turning_L1, ↓Res.bind_ok, ↓kB_rt, ↓kB_nx, ↓kO_ro, ↓kR_rt, ↓kR_rtC, ↓kR_nx]
theorem xe__law_turning (v0 : List D) (v1 : D) {β : Type} (k : D × List D → Res β) : (nxR (f__law_turning v0 [v1])).bind k = (g__law_turning v0 v1).bind k := by
  rw [e__law_turning]; unfold g__law_turning; rw [nxR_nxR]

def m__law_clause_w2_C1 : M D :=
  (e2 dMul (eNm 3) (eVl (e2 dIx (eVl (eL (eLst (eCons (pure (.int 1)) (eCons (e1 dNeg (eVl (pure (.int 1)))) (pure [])))))) (eVl (eCallR 0 f__law_take (eCons (pure (.int 2)) (pure [])))))))
def m__law_clause_w2_C1t : M Bool :=
  (eB (e2 dEq (eVl (eCallR 0 f__law_take (eCons (pure (.int 2)) (pure [])))) (eVl (pure (.int 0)))))
def m__law_clause_w2_J1 : M Fl :=
  (sIf (eB (e2 dEq (eNm 2) (eVl (eL (eLst (pure [])))))) (sSet 2 (eL (eLst (eCons (e2 dMul (eVl (e2 dAddL (eVl (pure (.int 1))) (eVl (eCallR 0 f__law_take (eCons (eVar 1) (pure [])))))) (eVl (e2 dIx (eVl (eL (eLst (eCons (pure (.int 1)) (eCons (e1 dNeg (eVl (pure (.int 1)))) (pure [])))))) (eVl (eCallR 0 f__law_take (eCons (pure (.int 2)) (pure []))))))) (pure []))))) (sPre [2] [] (pure .nx)))
def m__law_clause_w2 : M Fl :=
  (sSeq (sSetO 2 (eLc [3] (eRg2 (eVl (pure (.int 1))) (eVl (e2 dAddL (eNm 1) (eVl (pure (.int 1))))) >>= fun p => M.lift (gRg p)) (setV 3) m__law_clause_w2_C1t m__law_clause_w2_C1))
  (sSeq m__law_clause_w2_J1
  (sRetC true (e1 gTup (eNm 2)))))
def f__law_clause_w2 : List D → List D → Res (D × List D) := runR 4 m__law_clause_w2
def g__law_clause_w2_C1  (d : D) (s : List D) : Res (Option D × List D) :=
  (g__law_take s (.int 2)).bind fun x13 => (dEq x13.1 (.int 0)).bind fun x14 => (asB x14).bind fun x15 => bIf x15 ((g__law_take x13.2 (.int 2)).bind fun x16 => (dIx (.list [(.int 1), (.int (-1))]) x16.1).bind fun x17 => (dMul d x17).bind fun x18 => .ok (some x18, x16.2)) (.ok (none, x13.2))
theorem s__law_clause_w2_C1 {β : Type} {v0 : List D} {v1 : D} {ds : List D} (k : List D → En → Res β) : cps (lcIn [3] (setV 3) m__law_clause_w2_C1t m__law_clause_w2_C1 ds) [.own v0, .val v1, .emp, .emp] k = (lcOR (g__law_clause_w2_C1 ) ds v0).bind fun l => k l.1 [.own l.2, .val v1, .emp, .emp] :=
  c_lcOR (fun s : List D => [.own s, .val v1, .emp, .emp]) (fun s => [.own s, .val v1, .emp, .emp]) (fun _ => rfl) (fun _ => rfl) (fun _ _ => rfl) (fun _ _ _ => setV_exc) (by
    intro d s γ k
    show (cps ((setV 3) d) [.own s, .val v1, .emp, .emp] fun _ ρ1 => cps m__law_clause_w2_C1t ρ1 fun b ρ2 => bIf b (cps m__law_clause_w2_C1 ρ2 fun y ρ3 => k (some y) (wipeE ρ3 [3])) (k none (wipeE ρ2 [3]))) = _
    unfold m__law_clause_w2_C1t m__law_clause_w2_C1 g__law_clause_w2_C1
    simp only [↓c_fl, ↓c_pd, ↓c_pl, ↓c_pb, ↓c_po, ↓c_yes, ↓sqC_nx, ↓sqC_rt, ↓sqC_ro, ↓p_asB, ↓p_asI, ↓p_asOI, ↓p_asSl, ↓p_asSt, ↓p_lenl, ↓p_lent, ↓p_tupl, ↓p_listl, ↓p_listt, ↓p_neg, ↓p_isi, ↓p_isis, ↓p_isN, ↓p_notN, ↓p_int, ↓Res.assoc, ↓bIf_bind, ↓lpK_bind, ↓rb_ok, ↓rb_exc, ↓rb_bad, ↓lpK_nx, ↓lpK_rt, ↓c_e1, ↓c_e2, ↓c_eB, ↓c_callR, ↓c_cons, ↓c_L, ↓c_lst, ↓c_vl, ↓f0_iso, ↓f0_cal, ↓f3_nmv, ↓f3_atv, ↓f3_stV, ↓few2, ↓xe__law_take, wipeE_n, wipeE_c, List.set_cons_zero, List.set_cons_succ]) v0 k
def g__law_clause_w2_J1 (v0 : List D) (v1 : D) (v2 : List D) : Res (List D × D) :=
  (dEq (.list v2) (.list [])).bind fun x20 => (asB x20).bind fun x21 => bIf x21 ((g__law_take v0 v1).bind fun x22 => (dAddL (.int 1) x22.1).bind fun x23 => (g__law_take x22.2 (.int 2)).bind fun x24 => (dIx (.list [(.int 1), (.int (-1))]) x24.1).bind fun x25 => (dMul x23 x25).bind fun x26 => .ok (x24.2, (.list [x26]))) (.ok (v0, (.list v2)))
theorem s__law_clause_w2_J1 {β : Type} {v0 : List D} {v1 : D} {v2 : List D} (k : Fl → En → Res β) : cps m__law_clause_w2_J1 [.own v0, .val v1, .own v2, .emp] k = (g__law_clause_w2_J1 v0 v1 v2).bind fun s' => k .nx [.own s'.1, .val v1, .val s'.2, .emp] := by
  unfold m__law_clause_w2_J1 g__law_clause_w2_J1
  simp only [↓c_fl, ↓c_pd, ↓c_pl, ↓c_pb, ↓c_po, ↓c_yes, ↓sqC_nx, ↓sqC_rt, ↓sqC_ro, ↓p_asB, ↓p_asI, ↓p_asOI, ↓p_asSl, ↓p_asSt, ↓p_lenl, ↓p_lent, ↓p_tupl, ↓p_listl, ↓p_listt, ↓p_neg, ↓p_isi, ↓p_isis, ↓p_isN, ↓p_notN, ↓p_int, ↓Res.assoc, ↓bIf_bind, ↓lpK_bind, ↓rb_ok, ↓rb_exc, ↓rb_bad, ↓lpK_nx, ↓lpK_rt, ↓c_e1, ↓c_e2, ↓c_eB, ↓c_callR, ↓c_cons, ↓c_L, ↓c_lst, ↓c_vl, ↓c_if, ↓c_pre0, ↓c_set, ↓f0_iso, ↓f0_cal, ↓f2_nmv, ↓f2_atv, ↓f2_nmo, ↓f2_ato, ↓f1_vrv, ↓f2_stV, ↓f2_fz, ↓few0, ↓few1, ↓few2, ↓xe__law_take]
def g__law_clause_w2 (v0 : List D) (v1 : D) : Res (D × List D) := nxR (
  (dAddL v1 (.int 1)).bind fun x1 => (asI x1).bind fun x2 => (gRg (1, x2)).bind fun x3 => (lcOR g__law_clause_w2_C1 x3 v0).bind fun x19 => (g__law_clause_w2_J1 x19.2 v1 x19.1).bind fun x27 => (gTup x27.2).bind fun x28 => .ok (x28, x27.1))
theorem e__law_clause_w2 (v0 : List D) (v1 : D) : f__law_clause_w2 v0 [v1] = g__law_clause_w2 v0 v1 := by
  refine (runR_cps 4 m__law_clause_w2 v0 [v1]).trans (congrArg nxR ?_)
  show cps m__law_clause_w2 [.own v0, .val v1, .emp, .emp] kR = _
  unfold m__law_clause_w2
  simp only [↓c_fl, ↓c_pd, ↓c_pl, ↓c_pb, ↓c_po, ↓c_yes, ↓sqC_nx, ↓sqC_rt, ↓sqC_ro, ↓p_asB, ↓p_asI, ↓p_asOI, ↓p_asSl, ↓p_asSt, ↓p_lenl, ↓p_lent, ↓p_tupl, ↓p_listl, ↓p_listt, ↓p_neg, ↓p_isi, ↓p_isis, ↓p_isN, ↓p_notN, ↓p_int, ↓Res.assoc, ↓bIf_bind, ↓lpK_bind, ↓rb_ok, ↓rb_exc, ↓rb_bad, ↓lpK_nx, ↓lpK_rt, ↓c_e1, ↓c_e2, ↓c_lc, ↓c_rg2, ↓c_vl, ↓c_retC, ↓c_seq, ↓c_setO, ↓c_lift2, ↓c_lift, ↓f1_nmv, ↓f1_atv, ↓f2_nmv, ↓f2_atv, ↓f2_nmo, ↓f2_ato, ↓f2_stO, ↓f3_stV, ↓few2, ↓few0, ↓few1, ↓s__law_clause_w2_C1, ↓s__law_clause_w2_J1, ↓Res.bind_ok, ↓kB_rt, ↓kB_nx, ↓kO_ro, ↓kR_rt, ↓kR_rtC, ↓kR_nx]
theorem xe__law_clause_w2 (v0 : List D) (v1 : D) {β : Type} (k : D × List D → Res β) : (nxR (f__law_clause_w2 v0 [v1])).bind k = (g__law_clause_w2 v0 v1).bind k := by
  rw [e__law_clause_w2]; unfold g__law_clause_w2; rw [nxR_nxR]

def m__law_led_sign_w2 : M Fl :=
  (sRetC false (e2 dMul (eVl (e2 dIx (eNm 0) (eVl (e2 dSub (eVl (e1 gAbs (eNm 1))) (eVl (pure (.int 1))))))) (eVl (e2 dIx (eVl (eL (eLst (eCons (pure (.int 1)) (eCons (e1 dNeg (eVl (pure (.int 1)))) (pure [])))))) (eVl (e1 gInt (eVl (e2 dLt (eNm 1) (eVl (pure (.int 0)))))))))))
def f__law_led_sign_w2 : List D → Res D := runB 2 m__law_led_sign_w2
def g__law_led_sign_w2 (v0 : D) (v1 : D) : Res (D) :=
  (gAbs v1).bind fun x1 => (dSub x1 (.int 1)).bind fun x2 => (dIx v0 x2).bind fun x3 => (dLt v1 (.int 0)).bind fun x4 => (gInt x4).bind fun x5 => (dIx (.list [(.int 1), (.int (-1))]) x5).bind fun x6 => dMul x3 x6
theorem e__law_led_sign_w2 (v0 : D) (v1 : D) : f__law_led_sign_w2 [v0, v1] = g__law_led_sign_w2 v0 v1 := by
  refine (runB_cps 2 m__law_led_sign_w2 [v0, v1]).trans ?_
  show cps m__law_led_sign_w2 [.val v0, .val v1] kB = _
  unfold m__law_led_sign_w2 g__law_led_sign_w2
  simp only [↓c_fl, ↓c_pd, ↓c_pl, ↓c_pb, ↓c_po, ↓c_yes, ↓sqC_nx, ↓sqC_rt, ↓sqC_ro, ↓p_asB, ↓p_asI, ↓p_asOI, ↓p_asSl, ↓p_asSt, ↓p_lenl, ↓p_lent, ↓p_tupl, ↓p_listl, ↓p_listt, ↓p_neg, ↓p_isi, ↓p_isis, ↓p_isN, ↓p_notN, ↓p_int, ↓Res.assoc, ↓bIf_bind, ↓lpK_bind, ↓rb_ok, ↓rb_exc, ↓rb_bad, ↓lpK_nx, ↓lpK_rt, ↓c_e1, ↓c_e2, ↓c_cons, ↓c_L, ↓c_lst, ↓c_vl, ↓c_retC, ↓f0_nmv, ↓f0_atv, ↓f1_nmv, ↓f1_atv, ↓few2, ↓Res.bind_ok, ↓kB_rt, ↓kB_nx, ↓kO_ro, ↓kR_rt, ↓kR_rtC, ↓kR_nx]

def m__law_led_clause_w2_C1 : M D :=
  (eTup (eCons (e1 gAbs (eVl (eCall f__law_led_sign_w2 (eCons (eVar 1) (eCons (eVar 3) (pure [])))))) (eCons (eCall f__law_led_sign_w2 (eCons (eVar 1) (eCons (eVar 3) (pure [])))) (pure []))))
def m__law_led_clause_w2_C2 : M D :=
  (eVar 3)
def m__law_led_clause_w2 : M Fl :=
  (sSeq (sSetO 2 (eLc [3] ((eVar 0) >>= fun d => M.lift (asS d)) (setV 3) mYes m__law_led_clause_w2_C1))
  (sRetC false (e1 gTup (eVl (eL (eLc [4, 3] ((eL (e1 gSorted2 (eNm 2))) >>= fun d => M.lift (asS d)) (bdT [4, 3]) mYes m__law_led_clause_w2_C2))))))
def f__law_led_clause_w2 : List D → Res D := runB 5 m__law_led_clause_w2
def g__law_led_clause_w2_C1 (v1 : D) (d : D) : Res D :=
  (g__law_led_sign_w2 v1 d).bind fun x2 => (gAbs x2).bind fun x3 => (g__law_led_sign_w2 v1 d).bind fun x4 => .ok (.tuple [x3, x4])
theorem s__law_led_clause_w2_C1 {β : Type} {v0 : D} {v1 : D} {ds : List D} (k : List D → En → Res β) : cps (lcIn [3] (setV 3) mYes m__law_led_clause_w2_C1 ds) [.val v0, .val v1, .emp, .emp, .emp] k = (lcR (g__law_led_clause_w2_C1 v1) ds).bind fun l => k l [.val v0, .val v1, .emp, .emp, .emp] :=
  c_lcR (env0 := [.val v0, .val v1, .emp, .emp, .emp]) rfl rfl rfl (fun _ _ _ => setV_exc) (by
    intro d γ k
    unfold m__law_led_clause_w2_C1 g__law_led_clause_w2_C1
    simp only [↓c_fl, ↓c_pd, ↓c_pl, ↓c_pb, ↓c_po, ↓c_yes, ↓sqC_nx, ↓sqC_rt, ↓sqC_ro, ↓p_asB, ↓p_asI, ↓p_asOI, ↓p_asSl, ↓p_asSt, ↓p_lenl, ↓p_lent, ↓p_tupl, ↓p_listl, ↓p_listt, ↓p_neg, ↓p_isi, ↓p_isis, ↓p_isN, ↓p_notN, ↓p_int, ↓Res.assoc, ↓bIf_bind, ↓lpK_bind, ↓rb_ok, ↓rb_exc, ↓rb_bad, ↓lpK_nx, ↓lpK_rt, ↓c_e1, ↓c_call, ↓c_cons, ↓c_tup, ↓c_vl, ↓f1_vrv, ↓f3_vrv, ↓f3_stV, ↓few2, ↓e__law_led_sign_w2, wipeE_n, wipeE_c, List.set_cons_zero, List.set_cons_succ]) k
def g__law_led_clause_w2_C2  (d : D) : Res D :=
  (asT2 d).bind fun x7 => .ok x7.2
theorem s__law_led_clause_w2_C2 {β : Type} {v0 : D} {v1 : D} {v2 : List D} {ds : List D} (k : List D → En → Res β) : cps (lcIn [4, 3] (bdT [4, 3]) mYes m__law_led_clause_w2_C2 ds) [.val v0, .val v1, .own v2, .emp, .emp] k = (lcR (g__law_led_clause_w2_C2 ) ds).bind fun l => k l [.val v0, .val v1, .own v2, .emp, .emp] :=
  c_lcR (env0 := [.val v0, .val v1, .own v2, .emp, .emp]) rfl rfl rfl (fun _ _ _ => bdT_exc) (by
    intro d γ k
    unfold m__law_led_clause_w2_C2 g__law_led_clause_w2_C2
    simp only [↓c_fl, ↓c_pd, ↓c_pl, ↓c_pb, ↓c_po, ↓c_yes, ↓sqC_nx, ↓sqC_rt, ↓sqC_ro, ↓p_asB, ↓p_asI, ↓p_asOI, ↓p_asSl, ↓p_asSt, ↓p_lenl, ↓p_lent, ↓p_tupl, ↓p_listl, ↓p_listt, ↓p_neg, ↓p_isi, ↓p_isis, ↓p_isN, ↓p_notN, ↓p_int, ↓Res.assoc, ↓bIf_bind, ↓lpK_bind, ↓rb_ok, ↓rb_exc, ↓rb_bad, ↓lpK_nx, ↓lpK_rt, ↓c_bdT2, ↓c_bdT3, ↓f3_vrv, ↓f4_stV, ↓f3_stV, wipeE_n, wipeE_c, List.set_cons_zero, List.set_cons_succ]) k
def g__law_led_clause_w2 (v0 : D) (v1 : D) : Res (D) :=
  (asS v0).bind fun x1 => (lcR (g__law_led_clause_w2_C1 v1) x1).bind fun x5 => (gSorted2 (.list x5)).bind fun x6 => (lcR g__law_led_clause_w2_C2 x6).bind fun x8 => .ok (.tuple x8)
theorem e__law_led_clause_w2 (v0 : D) (v1 : D) : f__law_led_clause_w2 [v0, v1] = g__law_led_clause_w2 v0 v1 := by
  refine (runB_cps 5 m__law_led_clause_w2 [v0, v1]).trans ?_
  show cps m__law_led_clause_w2 [.val v0, .val v1, .emp, .emp, .emp] kB = _
  unfold m__law_led_clause_w2 g__law_led_clause_w2
  simp only [↓c_fl, ↓c_pd, ↓c_pl, ↓c_pb, ↓c_po, ↓c_yes, ↓sqC_nx, ↓sqC_rt, ↓sqC_ro, ↓p_asB, ↓p_asI, ↓p_asOI, ↓p_asSl, ↓p_asSt, ↓p_lenl, ↓p_lent, ↓p_tupl, ↓p_listl, ↓p_listt, ↓p_neg, ↓p_isi, ↓p_isis, ↓p_isN, ↓p_notN, ↓p_int, ↓Res.assoc, ↓bIf_bind, ↓lpK_bind, ↓rb_ok, ↓rb_exc, ↓rb_bad, ↓lpK_nx, ↓lpK_rt, ↓c_bdT2, ↓c_bdT3, ↓c_e1, ↓c_L, ↓c_lc, ↓c_vl, ↓c_retC, ↓c_seq, ↓c_setO, ↓c_lift2, ↓c_lift, ↓f2_nmv, ↓f2_atv, ↓f2_nmo, ↓f2_ato, ↓f0_vrv, ↓f2_stO, ↓f3_stV, ↓f4_stV, ↓few2, ↓s__law_led_clause_w2_C1, ↓s__law_led_clause_w2_C2, ↓Res.bind_ok, ↓kB_rt, ↓kB_nx, ↓kO_ro, ↓kR_rt, ↓kR_rtC, ↓kR_nx]

def m__law_riddle_of_L1 : M Fl :=
  (sSeq (sPutD 3 (eVl (eCallR 0 f__law_clause_w2 (eCons (eVar 1) (pure [])))) (pure (.bool true)))
  (sPre [] [4] (pure .nx)))
def m__law_riddle_of_J1 : M Fl :=
  (sIf (eB (eInD true 3 (eNm 7))) (sSeq (sPutD 3 (eNm 7) (pure (.bool true)))
  (sApp' 6 (eVar 7))) (pure .nx))
def m__law_riddle_of_W1 : M Fl :=
  (sSeq (sSet 7 (eCall f__law_led_clause_w2 (eCons (popO 6) (eCons (eVar 5) (pure [])))))
  (sSeq m__law_riddle_of_J1
  (sPre [] [7] (pure .nx))))
def m__law_riddle_of_W1t : M Bool :=
  (eB (e2 dNe (eNm 6) (eVl (eL (eLst (pure []))))))
def m__law_riddle_of : M Fl :=
  (sSeq (sIf (eB (e2 dEq (eNm 1) (eVl (pure (.int 0))))) (sRetC true (eTup (eCons (pure (.int 0)) (eCons (eTup (pure [])) (pure []))))) (pure .nx))
  (sSeq (sSet 2 (e2 dIx (eVl (eL (eLst (eCons (pure (.int 3)) (eCons (pure (.int 5)) (eCons (pure (.int 12)) (pure []))))))) (eVl (eCallR 0 f__law_take (eCons (pure (.int 3)) (pure []))))))
  (sSeq (sNewD 3 (.dT []))
  (sSeq (sFor (eRg1 (eVl (eCallR 0 f__law_take (eCons (e2 dAddL (eNm 2) (eVl (pure (.int 1)))) (pure [])))) >>= fun p => M.lift (gRg p)) (setV 4) m__law_riddle_of_L1)
  (sSeq (sSet 5 (eCallR 0 f__law_turning (eCons (eVar 1) (pure []))))
  (sSeq (sSetO 6 (e2 gRep (eVl (eL (eListD 3))) (eVl (e2 dIx (eVl (eL (eLst (eCons (pure (.int 1)) (eCons (pure (.int 0)) (pure [])))))) (eVl (eCallR 0 f__law_take (eCons (pure (.int 2)) (pure []))))))))
  (sSeq (whGo m__law_riddle_of_W1t m__law_riddle_of_W1 fuel)
  (sRetC true (eTup (eCons (eVar 1) (eCons (e1 gTup (eVl (eSl dSl (eVl (eL (eSortT 3))) (pure none) (ePart (eVl (pure (.int 30))))))) (pure []))))))))))))
def f__law_riddle_of : List D → List D → Res (D × List D) := runR 8 m__law_riddle_of
def g__law_riddle_of_L1 (v1 : D) (d : D) (s : List D × DT) : Res (List D × DT) :=
  (g__law_clause_w2 s.1 v1).bind fun x9 => (putTR s.2 x9.1 (.bool true)).bind fun x10 => .ok (x9.2, x10)
theorem s__law_riddle_of_L1 {β : Type} {v0 : List D} {v1 : D} {v2 : D} {v3 : DT} {ds : List D} (k : Fl → En → Res β) : cps (forGo (setV 4) m__law_riddle_of_L1 ds) [.own v0, .val v1, .val v2, .dT v3, .emp, .emp, .emp, .emp] k = (foldR (g__law_riddle_of_L1 v1) ds (v0, v3)).bind fun s' => k .nx [.own s'.1, .val v1, .val v2, .dT s'.2, .emp, .emp, .emp, .emp] :=
  c_fold (fun s : List D × DT => [.own s.1, .val v1, .val v2, .dT s.2, .emp, .emp, .emp, .emp]) (g__law_riddle_of_L1 v1) (by
    intro d s γ k
    show (cps ((setV 4) d) [.own s.1, .val v1, .val v2, .dT s.2, .emp, .emp, .emp, .emp] fun _ ρ1 => cps m__law_riddle_of_L1 ρ1 k) = _
    unfold m__law_riddle_of_L1 g__law_riddle_of_L1
    simp only [↓c_fl, ↓c_pd, ↓c_pl, ↓c_pb, ↓c_po, ↓c_yes, ↓sqC_nx, ↓sqC_rt, ↓sqC_ro, ↓p_asB, ↓p_asI, ↓p_asOI, ↓p_asSl, ↓p_asSt, ↓p_lenl, ↓p_lent, ↓p_tupl, ↓p_listl, ↓p_listt, ↓p_neg, ↓p_isi, ↓p_isis, ↓p_isN, ↓p_notN, ↓p_int, ↓Res.assoc, ↓bIf_bind, ↓lpK_bind, ↓rb_ok, ↓rb_exc, ↓rb_bad, ↓lpK_nx, ↓lpK_rt, ↓c_callR, ↓c_cons, ↓c_vl, ↓c_pre0, ↓c_putD, ↓c_seq, ↓f0_iso, ↓f0_cal, ↓f1_vrv, ↓f3_isT, ↓f3_isK, ↓f3_put, ↓f3_puk, ↓f4_stV, ↓f4_wp, ↓xe__law_clause_w2]) ds (v0, v3) k
def g__law_riddle_of_J1 (v3 : DT) (v6 : List D) (v7 : D) : Res (DT × List D) :=
  (getTR v3 v7).bind fun x21 => bIf (!x21.isSome) ((putTR v3 v7 (.bool true)).bind fun x22 => (appR v6 v7).bind fun x23 => .ok (x22, x23)) (.ok (v3, v6))
theorem s__law_riddle_of_J1 {β : Type} {v0 : List D} {v1 : D} {v2 : D} {v3 : DT} {v5 : D} {v6 : List D} {v7 : D} (k : Fl → En → Res β) : cps m__law_riddle_of_J1 [.own v0, .val v1, .val v2, .dT v3, .emp, .val v5, .own v6, .val v7] k = (g__law_riddle_of_J1 v3 v6 v7).bind fun s' => k .nx [.own v0, .val v1, .val v2, .dT s'.1, .emp, .val v5, .own s'.2, .val v7] := by
  unfold m__law_riddle_of_J1 g__law_riddle_of_J1
  simp only [↓c_fl, ↓c_pd, ↓c_pl, ↓c_pb, ↓c_po, ↓c_yes, ↓sqC_nx, ↓sqC_rt, ↓sqC_ro, ↓p_asB, ↓p_asI, ↓p_asOI, ↓p_asSl, ↓p_asSt, ↓p_lenl, ↓p_lent, ↓p_tupl, ↓p_listl, ↓p_listt, ↓p_neg, ↓p_isi, ↓p_isis, ↓p_isN, ↓p_notN, ↓p_int, ↓Res.assoc, ↓bIf_bind, ↓lpK_bind, ↓rb_ok, ↓rb_exc, ↓rb_bad, ↓lpK_nx, ↓lpK_rt, ↓c_eB, ↓c_inDf, ↓c_inDt, ↓c_app, ↓c_if, ↓c_putD, ↓c_seq, ↓f7_nmv, ↓f7_atv, ↓f7_vrv, ↓f6_iso, ↓f6_app, ↓f3_isT, ↓f3_isK, ↓f3_put, ↓f3_puk, ↓f3_get, ↓f3_gek]
def g__law_riddle_of_W1t  (s : DT × List D) : Res Bool :=
  (dNe (.list s.2) (.list [])).bind fun x17 => asB x17
def g__law_riddle_of_W1 (v5 : D) (s : DT × List D) : Res (DT × List D) :=
  (popR s.2).bind fun x19 => (g__law_led_clause_w2 x19.1 v5).bind fun x20 => (g__law_riddle_of_J1 s.1 x19.2 x20).bind fun x24 => .ok (x24.1, x24.2)
theorem s__law_riddle_of_W1 {β : Type} {v0 : List D} {v1 : D} {v2 : D} {v3 : DT} {v5 : D} {v6 : List D} {n : Nat} (k : Fl → En → Res β) : cps (whGo m__law_riddle_of_W1t m__law_riddle_of_W1 n) [.own v0, .val v1, .val v2, .dT v3, .emp, .val v5, .own v6, .emp] k = (whR (g__law_riddle_of_W1t ) (g__law_riddle_of_W1 v5) n (v3, v6)).bind fun s' => k .nx [.own v0, .val v1, .val v2, .dT s'.1, .emp, .val v5, .own s'.2, .emp] :=
  c_while (fun s : DT × List D => [.own v0, .val v1, .val v2, .dT s.1, .emp, .val v5, .own s.2, .emp]) (g__law_riddle_of_W1t ) (g__law_riddle_of_W1 v5) (by
    intro s γ k
    show cps m__law_riddle_of_W1t [.own v0, .val v1, .val v2, .dT s.1, .emp, .val v5, .own s.2, .emp] k = _
    unfold m__law_riddle_of_W1t g__law_riddle_of_W1t
    simp only [↓c_fl, ↓c_pd, ↓c_pl, ↓c_pb, ↓c_po, ↓c_yes, ↓sqC_nx, ↓sqC_rt, ↓sqC_ro, ↓p_asB, ↓p_asI, ↓p_asOI, ↓p_asSl, ↓p_asSt, ↓p_lenl, ↓p_lent, ↓p_tupl, ↓p_listl, ↓p_listt, ↓p_neg, ↓p_isi, ↓p_isis, ↓p_isN, ↓p_notN, ↓p_int, ↓Res.assoc, ↓bIf_bind, ↓lpK_bind, ↓rb_ok, ↓rb_exc, ↓rb_bad, ↓lpK_nx, ↓lpK_rt, ↓c_e2, ↓c_eB, ↓c_L, ↓c_lst, ↓c_vl, ↓f6_nmv, ↓f6_atv, ↓f6_nmo, ↓f6_ato, ↓few0]) (by
    intro s γ k
    show cps m__law_riddle_of_W1 [.own v0, .val v1, .val v2, .dT s.1, .emp, .val v5, .own s.2, .emp] k = _
    unfold m__law_riddle_of_W1 g__law_riddle_of_W1
    simp only [↓c_fl, ↓c_pd, ↓c_pl, ↓c_pb, ↓c_po, ↓c_yes, ↓sqC_nx, ↓sqC_rt, ↓sqC_ro, ↓p_asB, ↓p_asI, ↓p_asOI, ↓p_asSl, ↓p_asSt, ↓p_lenl, ↓p_lent, ↓p_tupl, ↓p_listl, ↓p_listt, ↓p_neg, ↓p_isi, ↓p_isis, ↓p_isN, ↓p_notN, ↓p_int, ↓Res.assoc, ↓bIf_bind, ↓lpK_bind, ↓rb_ok, ↓rb_exc, ↓rb_bad, ↓lpK_nx, ↓lpK_rt, ↓c_call, ↓c_cons, ↓c_pre0, ↓c_seq, ↓c_set, ↓f5_vrv, ↓f6_pop, ↓f7_stV, ↓f7_wp, ↓s__law_riddle_of_J1, ↓e__law_led_clause_w2]) n (v3, v6) k
def g__law_riddle_of (v0 : List D) (v1 : D) : Res (D × List D) := nxR (
  (dEq v1 (.int 0)).bind fun x1 => (asB x1).bind fun x2 => bIf x2 (.ok ((.tuple [(.int 0), (.tuple [])]), v0)) ((g__law_take v0 (.int 3)).bind fun x3 => (dIx (.list [(.int 3), (.int 5), (.int 12)]) x3.1).bind fun x4 => (dAddL x4 (.int 1)).bind fun x5 => (g__law_take x3.2 x5).bind fun x6 => (asI x6.1).bind fun x7 => (gRg (0, x7)).bind fun x8 => (foldR (g__law_riddle_of_L1 v1) x8 (x6.2, [])).bind fun x11 => (g__law_turning x11.1 v1).bind fun x12 => (listDT x11.2).bind fun x13 => (g__law_take x12.2 (.int 2)).bind fun x14 => (dIx (.list [(.int 1), (.int 0)]) x14.1).bind fun x15 => (gRep (.list x13) x15).bind fun x16 => (whR (g__law_riddle_of_W1t) (g__law_riddle_of_W1 x12.1) fuel (x11.2, x16)).bind fun x25 => (sortTR x25.1).bind fun x26 => (dSl (.list x26) none (some 30)).bind fun x27 => (gTup x27).bind fun x28 => .ok ((.tuple [v1, x28]), x14.2)))
theorem e__law_riddle_of (v0 : List D) (v1 : D) : f__law_riddle_of v0 [v1] = g__law_riddle_of v0 v1 := by
  refine (runR_cps 8 m__law_riddle_of v0 [v1]).trans (congrArg nxR ?_)
  show cps m__law_riddle_of [.own v0, .val v1, .emp, .emp, .emp, .emp, .emp, .emp] kR = _
  unfold m__law_riddle_of
  simp only [↓c_fl, ↓c_pd, ↓c_pl, ↓c_pb, ↓c_po, ↓c_yes, ↓sqC_nx, ↓sqC_rt, ↓sqC_ro, ↓p_asB, ↓p_asI, ↓p_asOI, ↓p_asSl, ↓p_asSt, ↓p_lenl, ↓p_lent, ↓p_tupl, ↓p_listl, ↓p_listt, ↓p_neg, ↓p_isi, ↓p_isis, ↓p_isN, ↓p_notN, ↓p_int, ↓Res.assoc, ↓bIf_bind, ↓lpK_bind, ↓rb_ok, ↓rb_exc, ↓rb_bad, ↓lpK_nx, ↓lpK_rt, ↓c_e1, ↓c_e2, ↓c_eB, ↓c_callR, ↓c_cons, ↓c_L, ↓c_lst, ↓c_part, ↓c_rg1, ↓c_sl, ↓c_tup, ↓c_vl, ↓c_for, ↓c_if, ↓c_newD, ↓c_retC, ↓c_seq, ↓c_set, ↓c_setO, ↓c_lift2, ↓c_lift, ↓f0_iso, ↓f0_cal, ↓f3_lid, ↓f1_nmv, ↓f1_atv, ↓f2_nmv, ↓f2_atv, ↓f3_sot, ↓f1_vrv, ↓f3_stS, ↓f2_stV, ↓f5_stV, ↓f6_stO, ↓f4_stV, ↓few2, ↓few0, ↓few3, ↓s__law_riddle_of_L1, ↓s__law_riddle_of_W1, ↓xe__law_take, ↓xe__law_turning, ↓Res.bind_ok, ↓kB_rt, ↓kB_nx, ↓kO_ro, ↓kR_rt, ↓kR_rtC, ↓kR_nx]
theorem xe__law_riddle_of (v0 : List D) (v1 : D) {β : Type} (k : D × List D → Res β) : (nxR (f__law_riddle_of v0 [v1])).bind k = (g__law_riddle_of v0 v1).bind k := by
  rw [e__law_riddle_of]; unfold g__law_riddle_of; rw [nxR_nxR]

def m__law_bits_C1 : M D :=
  (e2 dAnd (eVl (e2 dShr (eNm 1) (eVl (e2 dSub (eVl (e2 dSub (eNm 0) (eVl (pure (.int 1))))) (eNm 2))))) (eVl (pure (.int 1))))
def m__law_bits_C2 : M D :=
  (e1 gTup (eVl (eL (eLc [2] (eRg1 (eNm 0) >>= fun p => M.lift (gRg p)) (setV 2) mYes m__law_bits_C1))))
def m__law_bits : M Fl :=
  (sRetC false (eL (eLc [1] (eRg1 (eVl (e2 dShl (eVl (pure (.int 1))) (eNm 0))) >>= fun p => M.lift (gRg p)) (setV 1) mYes m__law_bits_C2)))
def f__law_bits : List D → Res D := runB 3 m__law_bits
def g__law_bits_C1 (v0 : D) (v1 : D) (d : D) : Res D :=
  (dSub v0 (.int 1)).bind fun x6 => (dSub x6 d).bind fun x7 => (dShr v1 x7).bind fun x8 => (dAnd x8 (.int 1)).bind fun x9 => .ok x9
theorem s__law_bits_C1 {β : Type} {v0 : D} {v1 : D} {ds : List D} (k : List D → En → Res β) : cps (lcIn [2] (setV 2) mYes m__law_bits_C1 ds) [.val v0, .val v1, .emp] k = (lcR (g__law_bits_C1 v0 v1) ds).bind fun l => k l [.val v0, .val v1, .emp] :=
  c_lcR (env0 := [.val v0, .val v1, .emp]) rfl rfl rfl (fun _ _ _ => setV_exc) (by
    intro d γ k
    unfold m__law_bits_C1 g__law_bits_C1
    simp only [↓c_fl, ↓c_pd, ↓c_pl, ↓c_pb, ↓c_po, ↓c_yes, ↓sqC_nx, ↓sqC_rt, ↓sqC_ro, ↓p_asB, ↓p_asI, ↓p_asOI, ↓p_asSl, ↓p_asSt, ↓p_lenl, ↓p_lent, ↓p_tupl, ↓p_listl, ↓p_listt, ↓p_neg, ↓p_isi, ↓p_isis, ↓p_isN, ↓p_notN, ↓p_int, ↓Res.assoc, ↓bIf_bind, ↓lpK_bind, ↓rb_ok, ↓rb_exc, ↓rb_bad, ↓lpK_nx, ↓lpK_rt, ↓c_e2, ↓c_vl, ↓f0_nmv, ↓f0_atv, ↓f1_nmv, ↓f1_atv, ↓f2_nmv, ↓f2_atv, ↓f2_stV, wipeE_n, wipeE_c, List.set_cons_zero, List.set_cons_succ]) k
def g__law_bits_C2 (v0 : D) (d : D) : Res D :=
  (asI v0).bind fun x4 => (gRg (0, x4)).bind fun x5 => (lcR (g__law_bits_C1 v0 d) x5).bind fun x10 => .ok (.tuple x10)
theorem s__law_bits_C2 {β : Type} {v0 : D} {ds : List D} (k : List D → En → Res β) : cps (lcIn [1] (setV 1) mYes m__law_bits_C2 ds) [.val v0, .emp, .emp] k = (lcR (g__law_bits_C2 v0) ds).bind fun l => k l [.val v0, .emp, .emp] :=
  c_lcR (env0 := [.val v0, .emp, .emp]) rfl rfl rfl (fun _ _ _ => setV_exc) (by
    intro d γ k
    unfold m__law_bits_C2 g__law_bits_C2
    simp only [↓c_fl, ↓c_pd, ↓c_pl, ↓c_pb, ↓c_po, ↓c_yes, ↓sqC_nx, ↓sqC_rt, ↓sqC_ro, ↓p_asB, ↓p_asI, ↓p_asOI, ↓p_asSl, ↓p_asSt, ↓p_lenl, ↓p_lent, ↓p_tupl, ↓p_listl, ↓p_listt, ↓p_neg, ↓p_isi, ↓p_isis, ↓p_isN, ↓p_notN, ↓p_int, ↓Res.assoc, ↓bIf_bind, ↓lpK_bind, ↓rb_ok, ↓rb_exc, ↓rb_bad, ↓lpK_nx, ↓lpK_rt, ↓c_e1, ↓c_L, ↓c_lc, ↓c_rg1, ↓c_vl, ↓c_lift2, ↓c_lift, ↓f0_nmv, ↓f0_atv, ↓f1_stV, ↓f2_stV, ↓s__law_bits_C1, wipeE_n, wipeE_c, List.set_cons_zero, List.set_cons_succ]) k
def g__law_bits (v0 : D) : Res (D) :=
  (dShl (.int 1) v0).bind fun x1 => (asI x1).bind fun x2 => (gRg (0, x2)).bind fun x3 => (lcR (g__law_bits_C2 v0) x3).bind fun x11 => .ok (.list x11)
theorem e__law_bits (v0 : D) : f__law_bits [v0] = g__law_bits v0 := by
  refine (runB_cps 3 m__law_bits [v0]).trans ?_
  show cps m__law_bits [.val v0, .emp, .emp] kB = _
  unfold m__law_bits g__law_bits
  simp only [↓c_fl, ↓c_pd, ↓c_pl, ↓c_pb, ↓c_po, ↓c_yes, ↓sqC_nx, ↓sqC_rt, ↓sqC_ro, ↓p_asB, ↓p_asI, ↓p_asOI, ↓p_asSl, ↓p_asSt, ↓p_lenl, ↓p_lent, ↓p_tupl, ↓p_listl, ↓p_listt, ↓p_neg, ↓p_isi, ↓p_isis, ↓p_isN, ↓p_notN, ↓p_int, ↓Res.assoc, ↓bIf_bind, ↓lpK_bind, ↓rb_ok, ↓rb_exc, ↓rb_bad, ↓lpK_nx, ↓lpK_rt, ↓c_e2, ↓c_L, ↓c_lc, ↓c_rg1, ↓c_vl, ↓c_retC, ↓c_lift2, ↓c_lift, ↓f0_nmv, ↓f0_atv, ↓f1_stV, ↓s__law_bits_C2, ↓Res.bind_ok, ↓kB_rt, ↓kB_nx, ↓kO_ro, ↓kR_rt, ↓kR_rtC, ↓kR_nx]

def m__law_turnings_right_A1 : M Bool :=
  (eOr (eB (e2 dNotB (eVl (eCall f_is_turning (eCons (eVar 2) (eCons (eVar 3) (pure []))))) (eVl (pure (.bool true))))) (eB (e2 dNotB (eVl (eCall f_is_turning (eCons (eVar 2) (eCons (eCall f_back (eCons (eVar 0) (pure []))) (pure []))))) (eVl (pure (.bool true))))))
def m__law_turnings_right_A2 : M Bool :=
  (eOr (eB (e2 dNe (eVl (eCall f_behind (eCons (eVar 0) (eCons (eCall f_back (eCons (eVar 0) (pure []))) (pure []))))) (eVl (eCall f_still (eCons (eVar 2) (pure [])))))) (eB (e2 dNe (eVl (eCall f_behind (eCons (eCall f_back (eCons (eVar 0) (pure []))) (eCons (eVar 0) (pure []))))) (eVl (eCall f_still (eCons (eVar 2) (pure [])))))))
def m__law_turnings_right_A3 : M Bool :=
  (eOr (eB (e2 dNe (eVl (eCall f_led_sign (eCons (eVar 3) (eCons (eVar 4) (pure []))))) (eVl (eCall f_led_sign (eCons (eVar 1) (eCons (eCall f_led_sign (eCons (eVar 0) (eCons (eVar 4) (pure [])))) (pure []))))))) (eB (e2 dNe (eVl (eCall f_led_sign (eCons (eVar 0) (eCons (e1 dNeg (eNm 4)) (pure []))))) (eVl (e1 dNeg (eVl (eCall f_led_sign (eCons (eVar 0) (eCons (eVar 4) (pure []))))))))))
def m__law_turnings_right_L1 : M Fl :=
  (sSeq (sIf m__law_turnings_right_A3 (sRetC false (pure (.bool false))) (pure .nx))
  (sPre [] [4] (pure .nx)))
def m__law_turnings_right_L2 : M Fl :=
  (sSeq (sSet 5 (eCall f_behind (eCons (eVar 5) (eCons (eVar 0) (pure [])))))
  (sSeq (sIf (eB (e2 dEq (eNm 5) (eVl (eCall f_still (eCons (eVar 2) (pure [])))))) (sRetC false (pure (.bool false))) (pure .nx))
  (sPre [] [6] (pure .nx))))
def m__law_turnings_right : M Fl :=
  (sSeq (sSet 2 (e1 gLen (eNm 0)))
  (sSeq (sSet 3 (eCall f_behind (eCons (eVar 0) (eCons (eVar 1) (pure [])))))
  (sSeq (sIf m__law_turnings_right_A1 (sRetC false (pure (.bool false))) (pure .nx))
  (sSeq (sIf m__law_turnings_right_A2 (sRetC false (pure (.bool false))) (pure .nx))
  (sSeq (sFor (eRg2 (eVl (pure (.int 1))) (eVl (e2 dAddL (eNm 2) (eVl (pure (.int 1))))) >>= fun p => M.lift (gRg p)) (setV 4) m__law_turnings_right_L1)
  (sSeq (sSet 5 (eCall f_still (eCons (eVar 2) (pure []))))
  (sSeq (sFor (eRg1 (eVl (e2 dSub (eVl (eCall f_order_of (eCons (eVar 0) (pure [])))) (eVl (pure (.int 1))))) >>= fun p => M.lift (gRg p)) (setV 6) m__law_turnings_right_L2)
  (sRetC false (e2 dEq (eVl (eCall f_behind (eCons (eVar 5) (eCons (eVar 0) (pure []))))) (eVl (eCall f_still (eCons (eVar 2) (pure [])))))))))))))
def f__law_turnings_right : List D → Res D := runB 7 m__law_turnings_right
def g__law_turnings_right_A1 (v0 : D) (v2 : D) (v3 : D) : Res (Bool) :=
  (g_is_turning v2 v3).bind fun x3 => (dNotB x3 (.bool true)).bind fun x4 => (asB x4).bind fun x5 => bIf x5 (.ok true) ((g_back v0).bind fun x6 => (g_is_turning v2 x6).bind fun x7 => (dNotB x7 (.bool true)).bind fun x8 => (asB x8).bind fun x9 => .ok x9)
theorem s__law_turnings_right_A1 {β : Type} {v0 : D} {v1 : D} {v2 : D} {v3 : D} (k : Bool → En → Res β) : cps m__law_turnings_right_A1 [.val v0, .val v1, .val v2, .val v3, .emp, .emp, .emp] k = (g__law_turnings_right_A1 v0 v2 v3).bind fun y => k y [.val v0, .val v1, .val v2, .val v3, .emp, .emp, .emp] := by
  unfold m__law_turnings_right_A1 g__law_turnings_right_A1
  simp only [↓c_fl, ↓c_pd, ↓c_pl, ↓c_pb, ↓c_po, ↓c_yes, ↓sqC_nx, ↓sqC_rt, ↓sqC_ro, ↓p_asB, ↓p_asI, ↓p_asOI, ↓p_asSl, ↓p_asSt, ↓p_lenl, ↓p_lent, ↓p_tupl, ↓p_listl, ↓p_listt, ↓p_neg, ↓p_isi, ↓p_isis, ↓p_isN, ↓p_notN, ↓p_int, ↓Res.assoc, ↓bIf_bind, ↓lpK_bind, ↓rb_ok, ↓rb_exc, ↓rb_bad, ↓lpK_nx, ↓lpK_rt, ↓c_e2, ↓c_eB, ↓c_call, ↓c_cons, ↓c_or, ↓c_vl, ↓f0_vrv, ↓f2_vrv, ↓f3_vrv, ↓e_back, ↓e_is_turning]
def g__law_turnings_right_A2 (v0 : D) (v2 : D) : Res (Bool) :=
  (g_back v0).bind fun x11 => (g_behind v0 x11).bind fun x12 => (g_still v2).bind fun x13 => (dNe x12 x13).bind fun x14 => (asB x14).bind fun x15 => bIf x15 (.ok true) ((g_back v0).bind fun x16 => (g_behind x16 v0).bind fun x17 => (g_still v2).bind fun x18 => (dNe x17 x18).bind fun x19 => (asB x19).bind fun x20 => .ok x20)
theorem s__law_turnings_right_A2 {β : Type} {v0 : D} {v1 : D} {v2 : D} {v3 : D} (k : Bool → En → Res β) : cps m__law_turnings_right_A2 [.val v0, .val v1, .val v2, .val v3, .emp, .emp, .emp] k = (g__law_turnings_right_A2 v0 v2).bind fun y => k y [.val v0, .val v1, .val v2, .val v3, .emp, .emp, .emp] := by
  unfold m__law_turnings_right_A2 g__law_turnings_right_A2
  simp only [↓c_fl, ↓c_pd, ↓c_pl, ↓c_pb, ↓c_po, ↓c_yes, ↓sqC_nx, ↓sqC_rt, ↓sqC_ro, ↓p_asB, ↓p_asI, ↓p_asOI, ↓p_asSl, ↓p_asSt, ↓p_lenl, ↓p_lent, ↓p_tupl, ↓p_listl, ↓p_listt, ↓p_neg, ↓p_isi, ↓p_isis, ↓p_isN, ↓p_notN, ↓p_int, ↓Res.assoc, ↓bIf_bind, ↓lpK_bind, ↓rb_ok, ↓rb_exc, ↓rb_bad, ↓lpK_nx, ↓lpK_rt, ↓c_e2, ↓c_eB, ↓c_call, ↓c_cons, ↓c_or, ↓c_vl, ↓f0_vrv, ↓f2_vrv, ↓e_back, ↓e_behind, ↓e_still]
def g__law_turnings_right_A3 (v0 : D) (v1 : D) (v3 : D) (v4 : D) : Res (Bool) :=
  (g_led_sign v3 v4).bind fun x25 => (g_led_sign v0 v4).bind fun x26 => (g_led_sign v1 x26).bind fun x27 => (dNe x25 x27).bind fun x28 => (asB x28).bind fun x29 => bIf x29 (.ok true) ((dNeg v4).bind fun x30 => (g_led_sign v0 x30).bind fun x31 => (g_led_sign v0 v4).bind fun x32 => (dNeg x32).bind fun x33 => (dNe x31 x33).bind fun x34 => (asB x34).bind fun x35 => .ok x35)
theorem s__law_turnings_right_A3 {β : Type} {v0 : D} {v1 : D} {v2 : D} {v3 : D} {v4 : D} (k : Bool → En → Res β) : cps m__law_turnings_right_A3 [.val v0, .val v1, .val v2, .val v3, .val v4, .emp, .emp] k = (g__law_turnings_right_A3 v0 v1 v3 v4).bind fun y => k y [.val v0, .val v1, .val v2, .val v3, .val v4, .emp, .emp] := by
  unfold m__law_turnings_right_A3 g__law_turnings_right_A3
  simp only [↓c_fl, ↓c_pd, ↓c_pl, ↓c_pb, ↓c_po, ↓c_yes, ↓sqC_nx, ↓sqC_rt, ↓sqC_ro, ↓p_asB, ↓p_asI, ↓p_asOI, ↓p_asSl, ↓p_asSt, ↓p_lenl, ↓p_lent, ↓p_tupl, ↓p_listl, ↓p_listt, ↓p_neg, ↓p_isi, ↓p_isis, ↓p_isN, ↓p_notN, ↓p_int, ↓Res.assoc, ↓bIf_bind, ↓lpK_bind, ↓rb_ok, ↓rb_exc, ↓rb_bad, ↓lpK_nx, ↓lpK_rt, ↓c_e1, ↓c_e2, ↓c_eB, ↓c_call, ↓c_cons, ↓c_or, ↓c_vl, ↓f4_nmv, ↓f4_atv, ↓f0_vrv, ↓f1_vrv, ↓f3_vrv, ↓f4_vrv, ↓e_led_sign]
def g__law_turnings_right_L1 (v0 : D) (v1 : D) (v3 : D) (d : D) (s : Unit) : Res (Lp Unit (D)) :=
  (g__law_turnings_right_A3 v0 v1 v3 d).bind fun x36 => bIf x36 (.ok (.rt (.bool false))) (.ok (.nx ()))
theorem s__law_turnings_right_L1 {β : Type} {v0 : D} {v1 : D} {v2 : D} {v3 : D} {ds : List D} (k : Fl → En → Res β) : cps (forGo (setV 4) m__law_turnings_right_L1 ds) [.val v0, .val v1, .val v2, .val v3, .emp, .emp, .emp] k = (forR (g__law_turnings_right_L1 v0 v1 v3) ds ()).bind fun o => lpK o (fun s' => k .nx [.val v0, .val v1, .val v2, .val v3, .emp, .emp, .emp]) fun r => k (.rt r) [.emp, .emp, .emp, .emp, .emp, .emp, .emp] :=
  c_forR (fun s : Unit => [.val v0, .val v1, .val v2, .val v3, .emp, .emp, .emp]) (fun r : D => .rt r) (fun _ => [.emp, .emp, .emp, .emp, .emp, .emp, .emp]) (fun _ => ⟨nofun, nofun, nofun⟩) (g__law_turnings_right_L1 v0 v1 v3) (by
    intro d s γ k
    show (cps ((setV 4) d) [.val v0, .val v1, .val v2, .val v3, .emp, .emp, .emp] fun _ ρ1 => cps m__law_turnings_right_L1 ρ1 k) = _
    unfold m__law_turnings_right_L1 g__law_turnings_right_L1
    simp only [↓c_fl, ↓c_pd, ↓c_pl, ↓c_pb, ↓c_po, ↓c_yes, ↓sqC_nx, ↓sqC_rt, ↓sqC_ro, ↓p_asB, ↓p_asI, ↓p_asOI, ↓p_asSl, ↓p_asSt, ↓p_lenl, ↓p_lent, ↓p_tupl, ↓p_listl, ↓p_listt, ↓p_neg, ↓p_isi, ↓p_isis, ↓p_isN, ↓p_notN, ↓p_int, ↓Res.assoc, ↓bIf_bind, ↓lpK_bind, ↓rb_ok, ↓rb_exc, ↓rb_bad, ↓lpK_nx, ↓lpK_rt, ↓c_if, ↓c_pre0, ↓c_retC, ↓c_seq, ↓f4_stV, ↓f4_wp, ↓s__law_turnings_right_A3, ↓clean_t, ↓clean_f, ↓clean_nil]) ds () k
def g__law_turnings_right_L2 (v0 : D) (v2 : D) (d : D) (s : D) : Res (Lp D (D)) :=
  (g_behind s v0).bind fun x45 => (g_still v2).bind fun x46 => (dEq x45 x46).bind fun x47 => (asB x47).bind fun x48 => bIf x48 (.ok (.rt (.bool false))) (.ok (.nx x45))
theorem s__law_turnings_right_L2 {β : Type} {v0 : D} {v1 : D} {v2 : D} {v3 : D} {v5 : D} {ds : List D} (k : Fl → En → Res β) : cps (forGo (setV 6) m__law_turnings_right_L2 ds) [.val v0, .val v1, .val v2, .val v3, .emp, .val v5, .emp] k = (forR (g__law_turnings_right_L2 v0 v2) ds v5).bind fun o => lpK o (fun s' => k .nx [.val v0, .val v1, .val v2, .val v3, .emp, .val s', .emp]) fun r => k (.rt r) [.emp, .emp, .emp, .emp, .emp, .emp, .emp] :=
  c_forR (fun s : D => [.val v0, .val v1, .val v2, .val v3, .emp, .val s, .emp]) (fun r : D => .rt r) (fun _ => [.emp, .emp, .emp, .emp, .emp, .emp, .emp]) (fun _ => ⟨nofun, nofun, nofun⟩) (g__law_turnings_right_L2 v0 v2) (by
    intro d s γ k
    show (cps ((setV 6) d) [.val v0, .val v1, .val v2, .val v3, .emp, .val s, .emp] fun _ ρ1 => cps m__law_turnings_right_L2 ρ1 k) = _
    unfold m__law_turnings_right_L2 g__law_turnings_right_L2
    simp only [↓c_fl, ↓c_pd, ↓c_pl, ↓c_pb, ↓c_po, ↓c_yes, ↓sqC_nx, ↓sqC_rt, ↓sqC_ro, ↓p_asB, ↓p_asI, ↓p_asOI, ↓p_asSl, ↓p_asSt, ↓p_lenl, ↓p_lent, ↓p_tupl, ↓p_listl, ↓p_listt, ↓p_neg, ↓p_isi, ↓p_isis, ↓p_isN, ↓p_notN, ↓p_int, ↓Res.assoc, ↓bIf_bind, ↓lpK_bind, ↓rb_ok, ↓rb_exc, ↓rb_bad, ↓lpK_nx, ↓lpK_rt, ↓c_e2, ↓c_eB, ↓c_call, ↓c_cons, ↓c_vl, ↓c_if, ↓c_pre0, ↓c_retC, ↓c_seq, ↓c_set, ↓f5_nmv, ↓f5_atv, ↓f0_vrv, ↓f2_vrv, ↓f5_vrv, ↓f5_stV, ↓f6_stV, ↓f6_wp, ↓e_behind, ↓e_still, ↓clean_t, ↓clean_f, ↓clean_nil]) ds v5 k
def g__law_turnings_right (v0 : D) (v1 : D) : Res (D) :=
  (gLen v0).bind fun x1 => (g_behind v0 v1).bind fun x2 => (g__law_turnings_right_A1 v0 x1 x2).bind fun x10 => bIf x10 (.ok (.bool false)) ((g__law_turnings_right_A2 v0 x1).bind fun x21 => bIf x21 (.ok (.bool false)) ((dAddL x1 (.int 1)).bind fun x22 => (asI x22).bind fun x23 => (gRg (1, x23)).bind fun x24 => (forR (g__law_turnings_right_L1 v0 v1 x2) x24 ()).bind fun x37 => lpK x37 (fun x38 => (g_still x1).bind fun x40 => (g_order_of v0).bind fun x41 => (dSub x41 (.int 1)).bind fun x42 => (asI x42).bind fun x43 => (gRg (0, x43)).bind fun x44 => (forR (g__law_turnings_right_L2 v0 x1) x44 x40).bind fun x49 => lpK x49 (fun x50 => (g_behind x50 v0).bind fun x52 => (g_still x1).bind fun x53 => dEq x52 x53) fun r51 => .ok r51) fun r39 => .ok r39))
theorem e__law_turnings_right (v0 : D) (v1 : D) : f__law_turnings_right [v0, v1] = g__law_turnings_right v0 v1 := by
  refine (runB_cps 7 m__law_turnings_right [v0, v1]).trans ?_
  show cps m__law_turnings_right [.val v0, .val v1, .emp, .emp, .emp, .emp, .emp] kB = _
  unfold m__law_turnings_right g__law_turnings_right
  simp only [↓c_fl, ↓c_pd, ↓c_pl, ↓c_pb, ↓c_po, ↓c_yes, ↓sqC_nx, ↓sqC_rt, ↓sqC_ro, ↓p_asB, ↓p_asI, ↓p_asOI, ↓p_asSl, ↓p_asSt, ↓p_lenl, ↓p_lent, ↓p_tupl, ↓p_listl, ↓p_listt, ↓p_neg, ↓p_isi, ↓p_isis, ↓p_isN, ↓p_notN, ↓p_int, ↓Res.assoc, ↓bIf_bind, ↓lpK_bind, ↓rb_ok, ↓rb_exc, ↓rb_bad, ↓lpK_nx, ↓lpK_rt, ↓c_e1, ↓c_e2, ↓c_call, ↓c_cons, ↓c_rg1, ↓c_rg2, ↓c_vl, ↓c_for, ↓c_if, ↓c_retC, ↓c_seq, ↓c_set, ↓c_lift2, ↓c_lift, ↓f0_nmv, ↓f0_atv, ↓f2_nmv, ↓f2_atv, ↓f0_vrv, ↓f1_vrv, ↓f2_vrv, ↓f5_vrv, ↓f2_stV, ↓f3_stV, ↓f5_stV, ↓f4_stV, ↓f6_stV, ↓s__law_turnings_right_A1, ↓s__law_turnings_right_A2, ↓s__law_turnings_right_L1, ↓s__law_turnings_right_L2, ↓e_behind, ↓e_order_of, ↓e_still, ↓Res.bind_ok, ↓kB_rt, ↓kB_nx, ↓kO_ro, ↓kR_rt, ↓kR_rtC, ↓kR_nx]

def m_law_k24_C1 : M D :=
  (eCallR 2 f__law_turning (eCons (e2 dIx (eNm 3) (eVl (pure (.int 0)))) (pure [])))
def m_law_k24_A1 : M Bool :=
  (eOr (eB (e2 dNotB (eVl (eCall f_is_riddle (eCons (eVar 4) (pure [])))) (eVl (pure (.bool true))))) (eOr (eB (e2 dNe (eVl (e1 gLen (eVl (e2 dIx (eNm 4) (eVl (pure (.int 1))))))) (eVl (e1 gLen (eVl (e2 dIx (eNm 3) (eVl (pure (.int 1))))))))) (eB (e2 dNe (eVl (eCall f_led (eCons (eVar 4) (eCons (eCall f_back (eCons (eVar 6) (pure []))) (pure []))))) (eNm 3)))))
def m_law_k24_A2 : M Bool :=
  (eOr (eB (e2 dNe (eVl (eCall f_led (eCons (eVar 4) (eCons (eVar 7) (pure []))))) (eVl (eCall f_led (eCons (eVar 3) (eCons (eCall f_behind (eCons (eVar 6) (eCons (eVar 7) (pure [])))) (pure []))))))) (eB (e2 dNe (eVl (eCall f_led (eCons (eVar 3) (eCons (eCall f_still (eCons (e2 dIx (eNm 3) (eVl (pure (.int 0)))) (pure []))) (pure []))))) (eNm 3))))
def m_law_k24_L1 : M Fl :=
  (sSeq (sIf (eB (e2 dNe (eVl (eCall f_keeps (eCons (eVar 3) (eCons (eVar 5) (pure []))))) (eVl (eCall f_keeps (eCons (eVar 4) (eCons (eCall f_led_answer (eCons (eVar 5) (eCons (eVar 6) (pure [])))) (pure []))))))) (sRetC false (pure (.bool false))) (pure .nx))
  (sSeq (sIf (eB (e2 dNe (eVl (eCall f_led_answer (eCons (eCall f_led_answer (eCons (eVar 5) (eCons (eVar 6) (pure [])))) (eCons (eVar 7) (pure []))))) (eVl (eCall f_led_answer (eCons (eVar 5) (eCons (eCall f_behind (eCons (eVar 6) (eCons (eVar 7) (pure [])))) (pure []))))))) (sRetC false (pure (.bool false))) (pure .nx))
  (sPre [] [5] (pure .nx))))
def m_law_k24_C2 : M D :=
  (eCall f_led_answer (eCons (eVar 5) (eCons (eVar 6) (pure []))))
def m_law_k24_L2 : M Fl :=
  (sSeq (sSetO 2 (eCallSO 0 f__law_state (eCons (eVar 1) (pure []))))
  (sSeq (sSet 3 (eCallR 2 f__law_riddle_of (eCons (eCallR 2 f__law_take (eCons (pure (.int 6)) (pure []))) (pure []))))
  (sSeq (sAsg (bdT [6, 7]) (eL (eLc [8] (eRg1 (eVl (pure (.int 2))) >>= fun p => M.lift (gRg p)) (setV 8) mYes m_law_k24_C1)))
  (sSeq (sIf (eNot (eB (eCall f__law_turnings_right (eCons (eVar 6) (eCons (eVar 7) (pure [])))))) (sRetC false (pure (.bool false))) (pure .nx))
  (sSeq (sSet 4 (eCall f_led (eCons (eVar 3) (eCons (eVar 6) (pure [])))))
  (sSeq (sIf m_law_k24_A1 (sRetC false (pure (.bool false))) (pure .nx))
  (sSeq (sIf m_law_k24_A2 (sRetC false (pure (.bool false))) (pure .nx))
  (sSeq (sFor ((eCall f__law_bits (eCons (e2 dIx (eNm 3) (eVl (pure (.int 0)))) (pure []))) >>= fun d => M.lift (asS d)) (setV 5) m_law_k24_L1)
  (sSeq (sIf (eB (e2 dNe (eVl (eL (e1 gSorted2 (eVl (eL (eLc [5] ((eCall f_answers_w2 (eCons (eVar 3) (pure []))) >>= fun d => M.lift (asS d)) (setV 5) mYes m_law_k24_C2)))))) (eVl (eCall f_answers_w2 (eCons (eVar 4) (pure [])))))) (sRetC false (pure (.bool false))) (pure .nx))
  (sPre [] [1, 2, 3, 4, 6, 7] (pure .nx)))))))))))
def m_law_k24 : M Fl :=
  (sSeq (sFor (eRg1 (eVl (e2 gMax (eVl (pure (.int 1))) (eVl (e2 gMin (eVl (eLenS 0)) (eVl (pure (.int 6))))))) >>= fun p => M.lift (gRg p)) (setV 1) m_law_k24_L2)
  (sRetC false (pure (.bool true))))
def f_law_k24 : List Int → List D → Res D := runSV 9 m_law_k24
def g_law_k24_C1 (v3 : D) (d : D) (s : List D) : Res (D × List D) :=
  (dIx v3 (.int 0)).bind fun x11 => (g__law_turning s x11).bind fun x12 => .ok (x12.1, x12.2)
theorem s_law_k24_C1 {β : Type} {v0 : List Int} {v1 : D} {v2 : List D} {v3 : D} {ds : List D} (k : List D → En → Res β) : cps (lcIn [8] (setV 8) mYes m_law_k24_C1 ds) [.scr v0, .val v1, .own v2, .val v3, .emp, .emp, .emp, .emp, .emp] k = (lcSR (g_law_k24_C1 v3) ds v2).bind fun l => k l.1 [.scr v0, .val v1, .own l.2, .val v3, .emp, .emp, .emp, .emp, .emp] :=
  c_lcSR (fun s : List D => [.scr v0, .val v1, .own s, .val v3, .emp, .emp, .emp, .emp, .emp]) (fun s => [.scr v0, .val v1, .own s, .val v3, .emp, .emp, .emp, .emp, .emp]) (fun _ => rfl) (fun _ => rfl) (fun _ _ => rfl) (fun _ _ _ => setV_exc) (by
    intro d s γ k
    show (cps ((setV 8) d) [.scr v0, .val v1, .own s, .val v3, .emp, .emp, .emp, .emp, .emp] fun _ ρ1 => cps m_law_k24_C1 ρ1 fun y ρ2 => k y (wipeE ρ2 [8])) = _
    unfold m_law_k24_C1 g_law_k24_C1
    simp only [↓c_fl, ↓c_pd, ↓c_pl, ↓c_pb, ↓c_po, ↓c_yes, ↓sqC_nx, ↓sqC_rt, ↓sqC_ro, ↓p_asB, ↓p_asI, ↓p_asOI, ↓p_asSl, ↓p_asSt, ↓p_lenl, ↓p_lent, ↓p_tupl, ↓p_listl, ↓p_listt, ↓p_neg, ↓p_isi, ↓p_isis, ↓p_isN, ↓p_notN, ↓p_int, ↓Res.assoc, ↓bIf_bind, ↓lpK_bind, ↓rb_ok, ↓rb_exc, ↓rb_bad, ↓lpK_nx, ↓lpK_rt, ↓c_e2, ↓c_callR, ↓c_cons, ↓c_vl, ↓f2_iso, ↓f2_cal, ↓f3_nmv, ↓f3_atv, ↓f8_stV, ↓xe__law_turning, wipeE_n, wipeE_c, List.set_cons_zero, List.set_cons_succ]) v2 k
def g_law_k24_A1 (v3 : D) (v4 : D) (v6 : D) : Res (Bool) :=
  (g_is_riddle v4).bind fun x18 => (dNotB x18 (.bool true)).bind fun x19 => (asB x19).bind fun x20 => bIf x20 (.ok true) ((dIx v4 (.int 1)).bind fun x21 => (gLen x21).bind fun x22 => (dIx v3 (.int 1)).bind fun x23 => (gLen x23).bind fun x24 => (dNe x22 x24).bind fun x25 => (asB x25).bind fun x26 => bIf x26 (.ok true) ((g_back v6).bind fun x27 => (g_led v4 x27).bind fun x28 => (dNe x28 v3).bind fun x29 => (asB x29).bind fun x30 => .ok x30))
theorem s_law_k24_A1 {β : Type} {v0 : List Int} {v1 : D} {v2 : List D} {v3 : D} {v4 : D} {v6 : D} {v7 : D} (k : Bool → En → Res β) : cps m_law_k24_A1 [.scr v0, .val v1, .own v2, .val v3, .val v4, .emp, .val v6, .val v7, .emp] k = (g_law_k24_A1 v3 v4 v6).bind fun y => k y [.scr v0, .val v1, .own v2, .val v3, .val v4, .emp, .val v6, .val v7, .emp] := by
  unfold m_law_k24_A1 g_law_k24_A1
  simp only [↓c_fl, ↓c_pd, ↓c_pl, ↓c_pb, ↓c_po, ↓c_yes, ↓sqC_nx, ↓sqC_rt, ↓sqC_ro, ↓p_asB, ↓p_asI, ↓p_asOI, ↓p_asSl, ↓p_asSt, ↓p_lenl, ↓p_lent, ↓p_tupl, ↓p_listl, ↓p_listt, ↓p_neg, ↓p_isi, ↓p_isis, ↓p_isN, ↓p_notN, ↓p_int, ↓Res.assoc, ↓bIf_bind, ↓lpK_bind, ↓rb_ok, ↓rb_exc, ↓rb_bad, ↓lpK_nx, ↓lpK_rt, ↓c_e1, ↓c_e2, ↓c_eB, ↓c_call, ↓c_cons, ↓c_or, ↓c_vl, ↓f3_nmv, ↓f3_atv, ↓f4_nmv, ↓f4_atv, ↓f4_vrv, ↓f6_vrv, ↓e_back, ↓e_is_riddle, ↓e_led]
def g_law_k24_A2 (v3 : D) (v4 : D) (v6 : D) (v7 : D) : Res (Bool) :=
  (g_led v4 v7).bind fun x32 => (g_behind v6 v7).bind fun x33 => (g_led v3 x33).bind fun x34 => (dNe x32 x34).bind fun x35 => (asB x35).bind fun x36 => bIf x36 (.ok true) ((dIx v3 (.int 0)).bind fun x37 => (g_still x37).bind fun x38 => (g_led v3 x38).bind fun x39 => (dNe x39 v3).bind fun x40 => (asB x40).bind fun x41 => .ok x41)
theorem s_law_k24_A2 {β : Type} {v0 : List Int} {v1 : D} {v2 : List D} {v3 : D} {v4 : D} {v6 : D} {v7 : D} (k : Bool → En → Res β) : cps m_law_k24_A2 [.scr v0, .val v1, .own v2, .val v3, .val v4, .emp, .val v6, .val v7, .emp] k = (g_law_k24_A2 v3 v4 v6 v7).bind fun y => k y [.scr v0, .val v1, .own v2, .val v3, .val v4, .emp, .val v6, .val v7, .emp] := by
  unfold m_law_k24_A2 g_law_k24_A2
  simp only [↓c_fl, ↓c_pd, ↓c_pl, ↓c_pb, ↓c_po, ↓c_yes, ↓sqC_nx, ↓sqC_rt, ↓sqC_ro, ↓p_asB, ↓p_asI, ↓p_asOI, ↓p_asSl, ↓p_asSt, ↓p_lenl, ↓p_lent, ↓p_tupl, ↓p_listl, ↓p_listt, ↓p_neg, ↓p_isi, ↓p_isis, ↓p_isN, ↓p_notN, ↓p_int, ↓Res.assoc, ↓bIf_bind, ↓lpK_bind, ↓rb_ok, ↓rb_exc, ↓rb_bad, ↓lpK_nx, ↓lpK_rt, ↓c_e2, ↓c_eB, ↓c_call, ↓c_cons, ↓c_or, ↓c_vl, ↓f3_nmv, ↓f3_atv, ↓f3_vrv, ↓f4_vrv, ↓f6_vrv, ↓f7_vrv, ↓e_behind, ↓e_led, ↓e_still]
def g_law_k24_L1 (v3 : D) (v4 : D) (v6 : D) (v7 : D) (d : D) (s : Unit) : Res (Lp Unit (D)) :=
  (g_keeps v3 d).bind fun x46 => (g_led_answer d v6).bind fun x47 => (g_keeps v4 x47).bind fun x48 => (dNe x46 x48).bind fun x49 => (asB x49).bind fun x50 => bIf x50 (.ok (.rt (.bool false))) ((g_led_answer d v6).bind fun x51 => (g_led_answer x51 v7).bind fun x52 => (g_behind v6 v7).bind fun x53 => (g_led_answer d x53).bind fun x54 => (dNe x52 x54).bind fun x55 => (asB x55).bind fun x56 => bIf x56 (.ok (.rt (.bool false))) (.ok (.nx ())))
theorem s_law_k24_L1 {β : Type} {v0 : List Int} {v1 : D} {v2 : List D} {v3 : D} {v4 : D} {v6 : D} {v7 : D} {ds : List D} (k : Fl → En → Res β) : cps (forGo (setV 5) m_law_k24_L1 ds) [.scr v0, .val v1, .own v2, .val v3, .val v4, .emp, .val v6, .val v7, .emp] k = (forR (g_law_k24_L1 v3 v4 v6 v7) ds ()).bind fun o => lpK o (fun s' => k .nx [.scr v0, .val v1, .own v2, .val v3, .val v4, .emp, .val v6, .val v7, .emp]) fun r => k (.rt r) [.emp, .emp, .emp, .emp, .emp, .emp, .emp, .emp, .emp] :=
  c_forR (fun s : Unit => [.scr v0, .val v1, .own v2, .val v3, .val v4, .emp, .val v6, .val v7, .emp]) (fun r : D => .rt r) (fun _ => [.emp, .emp, .emp, .emp, .emp, .emp, .emp, .emp, .emp]) (fun _ => ⟨nofun, nofun, nofun⟩) (g_law_k24_L1 v3 v4 v6 v7) (by
    intro d s γ k
    show (cps ((setV 5) d) [.scr v0, .val v1, .own v2, .val v3, .val v4, .emp, .val v6, .val v7, .emp] fun _ ρ1 => cps m_law_k24_L1 ρ1 k) = _
    unfold m_law_k24_L1 g_law_k24_L1
    simp only [↓c_fl, ↓c_pd, ↓c_pl, ↓c_pb, ↓c_po, ↓c_yes, ↓sqC_nx, ↓sqC_rt, ↓sqC_ro, ↓p_asB, ↓p_asI, ↓p_asOI, ↓p_asSl, ↓p_asSt, ↓p_lenl, ↓p_lent, ↓p_tupl, ↓p_listl, ↓p_listt, ↓p_neg, ↓p_isi, ↓p_isis, ↓p_isN, ↓p_notN, ↓p_int, ↓Res.assoc, ↓bIf_bind, ↓lpK_bind, ↓rb_ok, ↓rb_exc, ↓rb_bad, ↓lpK_nx, ↓lpK_rt, ↓c_e2, ↓c_eB, ↓c_call, ↓c_cons, ↓c_vl, ↓c_if, ↓c_pre0, ↓c_retC, ↓c_seq, ↓f3_vrv, ↓f4_vrv, ↓f5_vrv, ↓f6_vrv, ↓f7_vrv, ↓f5_stV, ↓f5_wp, ↓e_behind, ↓e_keeps, ↓e_led_answer, ↓clean_t, ↓clean_f, ↓clean_nil]) ds () k
def g_law_k24_C2 (v6 : D) (d : D) : Res D :=
  (g_led_answer d v6).bind fun x62 => .ok x62
theorem s_law_k24_C2 {β : Type} {v0 : List Int} {v1 : D} {v2 : List D} {v3 : D} {v4 : D} {v6 : D} {v7 : D} {ds : List D} (k : List D → En → Res β) : cps (lcIn [5] (setV 5) mYes m_law_k24_C2 ds) [.scr v0, .val v1, .own v2, .val v3, .val v4, .emp, .val v6, .val v7, .emp] k = (lcR (g_law_k24_C2 v6) ds).bind fun l => k l [.scr v0, .val v1, .own v2, .val v3, .val v4, .emp, .val v6, .val v7, .emp] :=
  c_lcR (env0 := [.scr v0, .val v1, .own v2, .val v3, .val v4, .emp, .val v6, .val v7, .emp]) rfl rfl rfl (fun _ _ _ => setV_exc) (by
    intro d γ k
    unfold m_law_k24_C2 g_law_k24_C2
    simp only [↓c_fl, ↓c_pd, ↓c_pl, ↓c_pb, ↓c_po, ↓c_yes, ↓sqC_nx, ↓sqC_rt, ↓sqC_ro, ↓p_asB, ↓p_asI, ↓p_asOI, ↓p_asSl, ↓p_asSt, ↓p_lenl, ↓p_lent, ↓p_tupl, ↓p_listl, ↓p_listt, ↓p_neg, ↓p_isi, ↓p_isis, ↓p_isN, ↓p_notN, ↓p_int, ↓Res.assoc, ↓bIf_bind, ↓lpK_bind, ↓rb_ok, ↓rb_exc, ↓rb_bad, ↓lpK_nx, ↓lpK_rt, ↓c_call, ↓c_cons, ↓f5_vrv, ↓f6_vrv, ↓f5_stV, ↓e_led_answer, wipeE_n, wipeE_c, List.set_cons_zero, List.set_cons_succ]) k
def g_law_k24_L2 (v0 : List Int) (d : D) (s : Unit) : Res (Lp Unit (D)) :=
  (g__law_state v0 d).bind fun x5 => (g__law_take x5 (.int 6)).bind fun x6 => (g__law_riddle_of x6.2 x6.1).bind fun x7 => (gRg (0, 2)).bind fun x8 => (lcSR (g_law_k24_C1 x7.1) x8 x7.2).bind fun x13 => (asT2 (.list x13.1)).bind fun x14 => (g__law_turnings_right x14.1 x14.2).bind fun x15 => (asB x15).bind fun x16 => bIf (!x16) (.ok (.rt (.bool false))) ((g_led x7.1 x14.1).bind fun x17 => (g_law_k24_A1 x7.1 x17 x14.1).bind fun x31 => bIf x31 (.ok (.rt (.bool false))) ((g_law_k24_A2 x7.1 x17 x14.1 x14.2).bind fun x42 => bIf x42 (.ok (.rt (.bool false))) ((dIx x7.1 (.int 0)).bind fun x43 => (g__law_bits x43).bind fun x44 => (asS x44).bind fun x45 => (forR (g_law_k24_L1 x7.1 x17 x14.1 x14.2) x45 ()).bind fun x57 => lpK x57 (fun x58 => (g_answers_w2 x7.1).bind fun x60 => (asS x60).bind fun x61 => (lcR (g_law_k24_C2 x14.1) x61).bind fun x63 => (gSorted2 (.list x63)).bind fun x64 => (g_answers_w2 x17).bind fun x65 => (dNe (.list x64) x65).bind fun x66 => (asB x66).bind fun x67 => bIf x67 (.ok (.rt (.bool false))) (.ok (.nx ()))) fun r59 => .ok (.rt r59))))
theorem s_law_k24_L2 {β : Type} {v0 : List Int} {ds : List D} (k : Fl → En → Res β) : cps (forGo (setV 1) m_law_k24_L2 ds) [.scr v0, .emp, .emp, .emp, .emp, .emp, .emp, .emp, .emp] k = (forR (g_law_k24_L2 v0) ds ()).bind fun o => lpK o (fun s' => k .nx [.scr v0, .emp, .emp, .emp, .emp, .emp, .emp, .emp, .emp]) fun r => k (.rt r) [.emp, .emp, .emp, .emp, .emp, .emp, .emp, .emp, .emp] :=
  c_forR (fun s : Unit => [.scr v0, .emp, .emp, .emp, .emp, .emp, .emp, .emp, .emp]) (fun r : D => .rt r) (fun _ => [.emp, .emp, .emp, .emp, .emp, .emp, .emp, .emp, .emp]) (fun _ => ⟨nofun, nofun, nofun⟩) (g_law_k24_L2 v0) (by
    intro d s γ k
    show (cps ((setV 1) d) [.scr v0, .emp, .emp, .emp, .emp, .emp, .emp, .emp, .emp] fun _ ρ1 => cps m_law_k24_L2 ρ1 k) = _
    unfold m_law_k24_L2 g_law_k24_L2
    simp only [↓c_fl, ↓c_pd, ↓c_pl, ↓c_pb, ↓c_po, ↓c_yes, ↓sqC_nx, ↓sqC_rt, ↓sqC_ro, ↓p_asB, ↓p_asI, ↓p_asOI, ↓p_asSl, ↓p_asSt, ↓p_lenl, ↓p_lent, ↓p_tupl, ↓p_listl, ↓p_listt, ↓p_neg, ↓p_isi, ↓p_isis, ↓p_isN, ↓p_notN, ↓p_int, ↓Res.assoc, ↓bIf_bind, ↓lpK_bind, ↓rb_ok, ↓rb_exc, ↓rb_bad, ↓lpK_nx, ↓lpK_rt, ↓c_bdT2, ↓c_bdT3, ↓c_e1, ↓c_e2, ↓c_eB, ↓c_call, ↓c_callR, ↓c_callSO, ↓f0_scr, ↓c_cons, ↓c_L, ↓c_lc, ↓c_not, ↓c_rg1, ↓c_vl, ↓c_asg, ↓c_for, ↓c_if, ↓c_pre0, ↓c_retC, ↓c_seq, ↓c_set, ↓c_setO, ↓c_lift2, ↓c_lift, ↓f2_iso, ↓f2_cal, ↓f3_nmv, ↓f3_atv, ↓f1_vrv, ↓f3_vrv, ↓f4_vrv, ↓f6_vrv, ↓f7_vrv, ↓f3_stV, ↓f4_stV, ↓f2_stO, ↓f1_stV, ↓f5_stV, ↓f8_stV, ↓f6_stV, ↓f7_stV, ↓f1_wp, ↓f2_wp, ↓f3_wp, ↓f4_wp, ↓f6_wp, ↓f7_wp, ↓s_law_k24_A1, ↓s_law_k24_A2, ↓s_law_k24_C1, ↓s_law_k24_C2, ↓s_law_k24_L1, ↓e__law_bits, ↓xe__law_riddle_of, ↓xe__law_state, ↓xe__law_take, ↓e__law_turnings_right, ↓e_answers_w2, ↓e_led, ↓clean_t, ↓clean_f, ↓clean_nil]) ds () k
def g_law_k24 (v0 : List Int) : Res (D) := nxR (
  (gMin (.int v0.length) (.int 6)).bind fun x1 => (gMax (.int 1) x1).bind fun x2 => (asI x2).bind fun x3 => (gRg (0, x3)).bind fun x4 => (forR (g_law_k24_L2 v0) x4 ()).bind fun x68 => lpK x68 (fun x69 => .ok (.bool true)) fun r70 => .ok r70)
theorem e_law_k24 (v0 : List Int) : f_law_k24 v0 [] = g_law_k24 v0 := by
  refine (runSV_cps 9 m_law_k24 v0 []).trans (congrArg nxR ?_)
  show cps m_law_k24 [.scr v0, .emp, .emp, .emp, .emp, .emp, .emp, .emp, .emp] kB = _
  unfold m_law_k24
  simp only [↓c_fl, ↓c_pd, ↓c_pl, ↓c_pb, ↓c_po, ↓c_yes, ↓sqC_nx, ↓sqC_rt, ↓sqC_ro, ↓p_asB, ↓p_asI, ↓p_asOI, ↓p_asSl, ↓p_asSt, ↓p_lenl, ↓p_lent, ↓p_tupl, ↓p_listl, ↓p_listt, ↓p_neg, ↓p_isi, ↓p_isis, ↓p_isN, ↓p_notN, ↓p_int, ↓Res.assoc, ↓bIf_bind, ↓lpK_bind, ↓rb_ok, ↓rb_exc, ↓rb_bad, ↓lpK_nx, ↓lpK_rt, ↓c_e2, ↓c_lenS, ↓f0_scr, ↓c_rg1, ↓c_vl, ↓c_for, ↓c_retC, ↓c_seq, ↓c_lift2, ↓c_lift, ↓f1_stV, ↓s_law_k24_L2, ↓Res.bind_ok, ↓kB_rt, ↓kB_nx, ↓kO_ro, ↓kR_rt, ↓kR_rtC, ↓kR_nx]
theorem xe_law_k24 (v0 : List Int) {β : Type} (k : D → Res β) : (nxR (f_law_k24 v0 [])).bind k = (g_law_k24 v0).bind k := by
  rw [e_law_k24]; unfold g_law_k24; rw [nxR_nxR]

end LW

set_option Elab.async false
set_option linter.all false
set_option maxRecDepth 100000
set_option maxHeartbeats 4000000
namespace LW
open PySem PySem.Spec PyProof.Rows L2 VS
/-! ### turnings, plainly -/
abbrev stillL (n : Nat) : List Int := (List.range n).map fun k : Nat => 1 + (k : Int)
def IsT (n : Nat) (t : List Int) : Prop := (t.map Int.natAbs).Perm (List.range' 1 n)
def led (t : List Int) (s : Int) : Int := if 0 < s then t.getD (s - 1).toNat 0 else 0 - t.getD (0 - s - 1).toNat 0
/-- a sign of n names -/
def Sg (n : Nat) (s : Int) : Prop := 1 ≤ s.natAbs ∧ s.natAbs ≤ n
def comp (a b : List Int) : List Int := a.map (led b)
section
variable {n : Nat} {t u a b : List Int} {s x y : Int}
theorem IsT.len (h : IsT n t) : t.length = n := by
  have := h.length_eq
  simpa using this
theorem IsT.sg (h : IsT n t) (m : s ∈ t) : Sg n s := by
  have h1 : s.natAbs ∈ List.range' 1 n := h.mem_iff.mp (List.mem_map.mpr ⟨s, m, rfl⟩)
  rw [List.mem_range'_1] at h1
  unfold Sg; omega
theorem IsT.nd (h : IsT n t) : (t.map Int.natAbs).Nodup := h.nodup_iff.mpr List.nodup_range'
theorem IsT.sur (h : IsT n t) {k : Nat} (h1 : 1 ≤ k) (h2 : k ≤ n) : ∃ s ∈ t, s.natAbs = k := by
  have : k ∈ t.map Int.natAbs := h.mem_iff.mpr (by rw [List.mem_range'_1]; omega)
  obtain ⟨s, m, e⟩ := List.mem_map.mp this
  exact ⟨s, m, e⟩
theorem getD_mem {i : Nat} (h : i < t.length) : t.getD i 0 ∈ t := by
  rw [List.getD_eq_getElem?_getD, List.getElem?_eq_getElem h]
  exact List.getElem_mem h
theorem led_pos (h : 0 < s) : led t s = t.getD (s - 1).toNat 0 := if_pos h
theorem led_neg (h : s < 0) : led t s = -t.getD (-s - 1).toNat 0 := by
  unfold led
  rw [if_neg (by omega), Int.zero_sub, Int.zero_sub]
theorem led_opp (h : s ≠ 0) : led t (-s) = -led t s := by
  rcases Int.lt_or_gt_of_ne h with h | h
  · rw [led_neg h, led_pos (by omega), Int.neg_neg]
  · rw [led_pos h, led_neg (by omega), Int.neg_neg]
/-- by its place -/
theorem led_at (hs : Sg n s) : led t s = if 0 < s then t.getD (s.natAbs - 1) 0 else -t.getD (s.natAbs - 1) 0 := by
  obtain ⟨h1, h2⟩ := hs
  by_cases h : 0 < s
  · rw [led_pos h, if_pos h]
    congr 1; omega
  · rw [led_neg (by omega), if_neg h]
    congr 2; omega
theorem led_abs (hs : Sg n s) : (led t s).natAbs = (t.getD (s.natAbs - 1) 0).natAbs := by
  rw [led_at hs]; split
  · rfl
  · rw [Int.natAbs_neg]
theorem led_sg (h : IsT n t) (hs : Sg n s) : Sg n (led t s) := by
  have := h.sg (getD_mem (t := t) (i := s.natAbs - 1) (by rw [h.len]; unfold Sg at hs; omega))
  unfold Sg at *
  rw [led_abs hs]; exact this
theorem Sg.opp (h : Sg n s) : Sg n (-s) := by unfold Sg at *; rwa [Int.natAbs_neg]
theorem Sg.ne (h : Sg n s) : s ≠ 0 := by unfold Sg at h; omega
theorem led_inj (h : IsT n t) (hx : Sg n x) (hy : Sg n y) (e : (led t x).natAbs = (led t y).natAbs) : x.natAbs = y.natAbs := by
  rw [led_abs hx, led_abs hy] at e
  have hl := h.len
  have lx : x.natAbs - 1 < t.length := by unfold Sg at hx; omega
  have ly : y.natAbs - 1 < t.length := by unfold Sg at hy; omega
  have nd := h.nd
  have := (List.getElem_inj (xs := t.map Int.natAbs) (i := x.natAbs - 1) (j := y.natAbs - 1) (h₀ := by simpa using lx) (h₁ := by simpa using ly) nd).mp (by
    rw [List.getElem_map, List.getElem_map]
    simpa [List.getD_eq_getElem?_getD, lx, ly] using e)
  unfold Sg at hx hy; omega
theorem led_inj' (h : IsT n t) (hx : Sg n x) (hy : Sg n y) (e : led t x = led t y) : x = y := by
  have e1 := led_inj h hx hy (by rw [e])
  have hx' := hx.ne
  have hy' := hy.ne
  by_cases hc : x = y
  · exact hc
  · have e2 : y = -x := by omega
    rw [e2, led_opp hx'] at e
    have := (led_sg h hx).ne
    omega
theorem comp_len : (comp a b).length = a.length := List.length_map ..
theorem comp_led (ha : IsT n a) (hb : IsT n b) (hs : Sg n s) : led (comp a b) s = led b (led a s) := by
  have hl := ha.len
  have ls : s.natAbs - 1 < a.length := by unfold Sg at hs; omega
  have hm := ha.sg (getD_mem (t := a) ls)
  have e : (comp a b).getD (s.natAbs - 1) 0 = led b (a.getD (s.natAbs - 1) 0) := by
    unfold comp
    simp [List.getD_eq_getElem?_getD, ls]
  rw [led_at hs, led_at (t := a) hs, e]
  split
  · rfl
  · rw [led_opp hm.ne]
theorem range'_sg {k : Nat} (h : k ∈ List.range' 1 n) : Sg n (k : Int) := by
  rw [List.mem_range'_1] at h
  unfold Sg; omega
theorem perm_of_sub {α : Type} [DecidableEq α] : ∀ {l m : List α}, l.Nodup → (∀ x ∈ l, x ∈ m) → m.length ≤ l.length → l.Perm m
  | [], m, _, _, h => by
    rw [List.length_eq_zero_iff.mp (Nat.le_zero.mp h)]
  | x :: l, m, nd, hs, h => by
    have nd' := List.nodup_cons.mp nd
    have mx := hs x List.mem_cons_self
    have p := List.perm_cons_erase mx
    refine (List.Perm.cons x (perm_of_sub nd'.2 (fun y my => ?_) ?_)).trans p.symm
    · have := p.mem_iff.mp (hs y (List.mem_cons_of_mem _ my))
      rcases List.mem_cons.mp this with rfl | h
      · exact absurd my nd'.1
      · exact h
    · have := p.length_eq
      simp only [List.length_cons] at this h
      omega
theorem comp_IsT (ha : IsT n a) (hb : IsT n b) : IsT n (comp a b) := by
  unfold IsT
  refine perm_of_sub ?_ (fun k m => ?_) (by simp [comp_len, ha.len])
  · unfold comp
    rw [List.map_map]
    have h1 : a.Nodup := List.Pairwise.of_map Int.natAbs (fun _ _ hne e => hne (by rw [e])) ha.nd
    unfold List.Nodup
    rw [List.pairwise_map]
    have h2 : a.Pairwise fun x y => x.natAbs ≠ y.natAbs := List.pairwise_map.mp ha.nd
    refine h2.imp_of_mem fun {x y} mx my hne e => hne (led_inj hb (ha.sg mx) (ha.sg my) e)
  · obtain ⟨z, mz, rfl⟩ := List.mem_map.mp m
    obtain ⟨x, mx, rfl⟩ := List.mem_map.mp mz
    have := led_sg hb (ha.sg mx)
    rw [List.mem_range'_1]
    unfold Sg at this; omega
theorem still_IsT : IsT n (stillL n) := by
  unfold IsT stillL
  rw [List.map_map, List.range'_eq_map_range]
  refine List.Perm.of_eq ?_
  refine List.map_congr_left fun k _ => ?_
  show (1 + (k : Int)).natAbs = 1 + k
  omega
theorem led_still (hs : Sg n s) : led (stillL n) s = s := by
  rw [led_at hs]
  have hl : s.natAbs - 1 < n := by unfold Sg at hs; omega
  have e : (stillL n).getD (s.natAbs - 1) 0 = 1 + ((s.natAbs - 1 : Nat) : Int) := by
    unfold stillL
    simp [List.getD_eq_getElem?_getD, hl]
  rw [e]
  unfold Sg at hs
  split <;> omega
/-- two turnings that lead each name alike are one -/
theorem IsT.ext (ha : a.length = n) (hb : b.length = n) (h : ∀ k : Nat, 1 ≤ k → k ≤ n → led a k = led b k) : a = b := by
  refine List.ext_getElem (by omega) fun i h1 h2 => ?_
  have := h (i + 1) (by omega) (by omega)
  rw [led_pos (by omega), led_pos (by omega)] at this
  have e : (((i + 1 : Nat) : Int) - 1).toNat = i := by omega
  rw [e] at this
  simpa [List.getD_eq_getElem?_getD, h1, h2] using this
theorem comp_assoc (ha : IsT n a) (hb : IsT n b) (ht : IsT n t) : comp (comp a b) t = comp a (comp b t) := by
  unfold comp
  rw [List.map_map]
  refine List.map_congr_left fun s m => ?_
  exact (comp_led hb ht (ha.sg m)).symm
theorem comp_still (ha : IsT n a) : comp a (stillL n) = a := by
  unfold comp
  conv => rhs; rw [← List.map_id a]
  exact List.map_congr_left fun s m => led_still (ha.sg m)
theorem still_comp (ha : IsT n a) : comp (stillL n) a = a := by
  refine IsT.ext (n := n) (by rw [comp_len]; simp) ha.len fun k h1 h2 => ?_
  have : Sg n (k : Int) := by unfold Sg; omega
  rw [comp_led still_IsT ha this, led_still this]
end
/-! ### values written to places -/
def scat (ps : List (Nat × Int)) (l : List Int) : List Int := ps.foldl (fun l p => l.set p.1 p.2) l
theorem scat_len : ∀ {ps : List (Nat × Int)} {l : List Int}, (scat ps l).length = l.length
  | [], _ => rfl
  | p :: ps, l => by
    show (scat ps (l.set p.1 p.2)).length = _
    rw [scat_len, List.length_set]
theorem scat_ne : ∀ {ps : List (Nat × Int)} {l : List Int} {i : Nat}, (∀ p ∈ ps, p.1 ≠ i) → (scat ps l)[i]? = l[i]?
  | [], _, _, _ => rfl
  | p :: ps, l, i, h => by
    show (scat ps (l.set p.1 p.2))[i]? = _
    rw [scat_ne fun q m => h q (List.mem_cons_of_mem _ m), List.getElem?_set_ne (h p List.mem_cons_self)]
theorem scat_at : ∀ {ps : List (Nat × Int)} {l : List Int} {p : Nat × Int}, (ps.map (·.1)).Nodup → p ∈ ps → p.1 < l.length → (scat ps l)[p.1]? = some p.2
  | q :: ps, l, p, nd, m, h => by
    have nd' := List.nodup_cons.mp (show (q.1 :: ps.map (·.1)).Nodup from nd)
    show (scat ps (l.set q.1 q.2))[p.1]? = _
    rcases List.mem_cons.mp m with rfl | m
    · rw [scat_ne fun r mr e => nd'.1 (List.mem_map.mpr ⟨r, mr, e⟩), List.getElem?_set_self h]
    · exact scat_at nd'.2 m (by rw [List.length_set]; exact h)
/-! ### turned back -/
def bkP (t : List Int) : List (Nat × Int) := t.zipIdx.map fun p => (p.1.natAbs - 1, if 0 < p.1 then (p.2 : Int) + 1 else 0 - (p.2 : Int) - 1)
def bk (t : List Int) : List Int := scat (bkP t) (List.replicate t.length 0)
section
variable {n : Nat} {t u a b : List Int} {s x y : Int}
theorem bk_len : (bk t).length = t.length := by unfold bk; rw [scat_len, List.length_replicate]
theorem places_nd {α : Type} {l : List α} (f : α → Int) (g : α → Int) (h : (l.map fun p => (f p).natAbs).Nodup) (h1 : ∀ p ∈ l, 1 ≤ (f p).natAbs) : ((l.map fun p => ((f p).natAbs - 1, g p)).map (·.1)).Nodup := by
  rw [List.map_map]
  unfold List.Nodup
  rw [List.pairwise_map]
  have h2 := List.pairwise_map.mp h
  refine h2.imp_of_mem fun {p q} mp mq hne e => hne ?_
  have e' : (f p).natAbs - 1 = (f q).natAbs - 1 := e
  have := h1 p mp
  have := h1 q mq
  omega
theorem zipIdx_fst : t.zipIdx.map (fun p => p.1.natAbs) = t.map Int.natAbs := by
  have : t.zipIdx.map (fun p => p.1.natAbs) = (t.zipIdx.map (·.1)).map Int.natAbs := by rw [List.map_map]; rfl
  rw [this, List.zipIdx_map_fst]
theorem bk_at (h : IsT n t) {i : Nat} (hi : i < t.length) : (bk t)[t[i].natAbs - 1]? = some (if 0 < t[i] then (i : Int) + 1 else -(i : Int) - 1) := by
  have hm : (t[i], i) ∈ t.zipIdx := by
    rw [List.mem_zipIdx_iff_getElem?]; simp [hi]
  have hsg := h.sg (List.getElem_mem hi)
  have := scat_at (ps := bkP t) (l := List.replicate t.length 0) (p := (t[i].natAbs - 1, if 0 < t[i] then (i : Int) + 1 else 0 - (i : Int) - 1)) (by
    refine places_nd (fun p : Int × Nat => p.1) _ ?_ fun p mp => ?_
    · rw [zipIdx_fst]; exact h.nd
    · obtain ⟨z, k⟩ := p
      rw [List.mem_zipIdx_iff_getElem?] at mp
      exact (h.sg (List.mem_of_getElem? mp)).1) (List.mem_map.mpr ⟨_, hm, rfl⟩) (by
    rw [List.length_replicate, h.len]; unfold Sg at hsg; show t[i].natAbs - 1 < n; omega)
  rw [show (if 0 < t[i] then (i : Int) + 1 else -(i : Int) - 1) = (if 0 < t[i] then (i : Int) + 1 else 0 - (i : Int) - 1) by split <;> omega]
  exact this
/-- back of where a sign is led is the sign -/
theorem bk_led (h : IsT n t) (hs : Sg n s) : led (bk t) (led t s) = s := by
  have hl := h.len
  have hi : s.natAbs - 1 < t.length := by unfold Sg at hs; omega
  have hls := led_sg h hs
  have e0 : t.getD (s.natAbs - 1) 0 = t[s.natAbs - 1] := by simp [List.getD_eq_getElem?_getD, hi]
  have key := bk_at h hi
  have hz := (h.sg (List.getElem_mem hi)).ne
  have e1 : (bk t).getD (t[s.natAbs - 1].natAbs - 1) 0 = (if 0 < t[s.natAbs - 1] then ((s.natAbs - 1 : Nat) : Int) + 1 else -((s.natAbs - 1 : Nat) : Int) - 1) := by
    rw [List.getD_eq_getElem?_getD, key]; rfl
  have hs1 := hs.1
  rw [led_at hls, led_abs hs, e0, e1, led_at hs, e0]
  by_cases p : 0 < s
  · by_cases q : 0 < t[s.natAbs - 1]
    · simp only [p, q, if_true]; omega
    · simp only [p, q, if_true, if_false]; omega
  · by_cases q : 0 < t[s.natAbs - 1]
    · simp only [p, q, if_true, if_false]
      rw [if_neg (by omega)]; omega
    · simp only [p, q, if_false]
      rw [if_pos (by omega)]; omega
theorem mem_stills {k : Nat} (h : k < n) : (k : Int) + 1 ∈ stillL n := List.mem_map.mpr ⟨k, List.mem_range.mpr h, by omega⟩
theorem bk_sg (h : IsT n t) (hm : s ∈ bk t) : ∃ i, ∃ hi : i < t.length, s = (if 0 < t[i] then (i : Int) + 1 else -(i : Int) - 1) := by
  obtain ⟨j, hj, rfl⟩ := List.getElem_of_mem hm
  rw [bk_len, h.len] at hj
  obtain ⟨x, mx, ex⟩ := h.sur (k := j + 1) (by omega) (by omega)
  obtain ⟨i, hi, rfl⟩ := List.getElem_of_mem mx
  have := bk_at h hi
  rw [ex, Nat.add_sub_cancel] at this
  exact ⟨i, hi, by rw [List.getElem?_eq_getElem (by rw [bk_len, h.len]; exact hj)] at this; exact Option.some.inj this⟩
theorem bk_IsT (h : IsT n t) : IsT n (bk t) := by
  have hl := h.len
  have hsur : ∀ k ∈ List.range' 1 n, k ∈ (bk t).map Int.natAbs := fun k hk => by
    rw [List.mem_range'_1] at hk
    have hs : Sg n (k : Int) := by unfold Sg; omega
    have hls := led_sg h hs
    have e := bk_led h hs
    refine List.mem_map.mpr ⟨(bk t).getD ((led t k).natAbs - 1) 0, getD_mem (by rw [bk_len, hl]; unfold Sg at hls; omega), ?_⟩
    have := led_abs (t := bk t) hls
    rw [e] at this
    rw [← this]; omega
  exact (perm_of_sub List.nodup_range' hsur (by simp [bk_len, hl])).symm
theorem comp_bk (h : IsT n t) : comp t (bk t) = stillL n := by
  refine IsT.ext (n := n) (by rw [comp_len, h.len]) (by simp) fun k h1 h2 => ?_
  have hs : Sg n (k : Int) := by unfold Sg; omega
  rw [comp_led h (bk_IsT h) hs, bk_led h hs, led_still hs]
theorem led_bk (h : IsT n t) (hs : Sg n s) : led t (led (bk t) s) = s := by
  have hb := bk_IsT h
  have h1 := led_sg hb hs
  have h2 := led_sg h h1
  refine led_inj' hb h2 hs ?_
  rw [bk_led h h1]
theorem bk_comp (h : IsT n t) : comp (bk t) t = stillL n := by
  refine IsT.ext (n := n) (by rw [comp_len, bk_len, h.len]) (by simp) fun k h1 h2 => ?_
  have hs : Sg n (k : Int) := by unfold Sg; omega
  rw [comp_led (bk_IsT h) h hs, led_bk h hs, led_still hs]
end
end LW

set_option Elab.async false
set_option linter.all false
set_option maxRecDepth 100000
set_option maxHeartbeats 4000000
namespace LW
open PySem PySem.Spec PyProof.Rows L2 VS
/-! ### the order of rows -/
def lt (a b : List Int) : Prop := HT.lexLt a b = true
instance (a b : List Int) : Decidable (lt a b) := by unfold lt; infer_instance
def le (a b : List Int) : Prop := leT a b = true
instance (a b : List Int) : Decidable (le a b) := by unfold le; infer_instance
section
variable {a b c : List Int}
theorem lt_le (h : lt a b) : le a b := leT_iff.mpr (NtL.lex_asym _ _ h)
theorem lt_irr (a : List Int) : ¬ lt a a := fun h => by
  have := NtL.lex_asym _ _ h
  unfold lt at h
  rw [h] at this; cases this
theorem lt_of_le_ne (h : le a b) (ne : a ≠ b) : lt a b := by
  unfold lt
  cases e : HT.lexLt a b with
  | true => rfl
  | false => exact absurd (leT_anti e (leT_iff.mp h)) ne
theorem le_tr (h1 : le a b) (h2 : le b c) : le a c := leT_iff.mpr (NtL.lex_tr _ _ _ (leT_iff.mp h1) (leT_iff.mp h2))
theorem le_refl (a : List Int) : le a a := by
  refine leT_iff.mpr ?_
  cases e : HT.lexLt a a with
  | false => rfl
  | true => exact absurd e (lt_irr a)
theorem le_anti (h1 : le a b) (h2 : le b a) : a = b := leT_anti (leT_iff.mp h2) (leT_iff.mp h1)
theorem lt_tr (h1 : lt a b) (h2 : lt b c) : lt a c := by
  refine lt_of_le_ne (le_tr (lt_le h1) (lt_le h2)) fun e => ?_
  subst e
  exact lt_irr _ (by
    have := le_anti (lt_le h1) (lt_le h2)
    subst this; exact h1)
theorem not_lt (h : ¬ lt a b) : le b a := leT_iff.mpr (by
  unfold lt at h
  cases e : HT.lexLt a b with
  | false => rfl
  | true => exact absurd e h)
theorem le_total (a b : List Int) : le a b ∨ lt b a := by
  by_cases h : lt b a
  · exact .inr h
  · exact .inl (not_lt h)
theorem not_lt_of_le (h : le a b) : ¬ lt b a := fun q => by
  have := leT_iff.mp h
  unfold lt at q
  rw [q] at this; cases this
end
def Rise (cs : List (List Int)) : Prop := cs.Pairwise lt
theorem Rise.le {cs : List (List Int)} (h : Rise cs) : cs.Pairwise fun p q => leT p q = true := h.imp fun h => lt_le h
theorem Rise.nd {cs : List (List Int)} (h : Rise cs) : cs.Nodup := h.imp fun h e => by subst e; exact lt_irr _ h
theorem rise_of {cs : List (List Int)} (h : cs.Pairwise fun p q => leT p q = true) (nd : cs.Nodup) : Rise cs := by
  have := List.Pairwise.and h nd
  exact this.imp fun h => lt_of_le_ne h.1 h.2
theorem sortT_eq {xs ys : List (List Int)} (h : xs.Perm ys) : sortT xs = sortT ys :=
  sortedT_unique ((sortT_perm xs).trans (h.trans (sortT_perm ys).symm)) (sortT_sorted _) (sortT_sorted _)
theorem sortT_id {xs : List (List Int)} (h : xs.Pairwise fun p q => leT p q = true) : sortT xs = xs :=
  sortedT_unique (sortT_perm xs) (sortT_sorted _) h
theorem sortT_rise {xs : List (List Int)} (h : xs.Nodup) : Rise (sortT xs) := rise_of (sortT_sorted _) ((sortT_perm xs).nodup_iff.mpr h)
theorem rise_ext {xs ys : List (List Int)} (hx : Rise xs) (hy : Rise ys) (h : ∀ z, z ∈ xs ↔ z ∈ ys) : xs = ys :=
  sortedT_unique ((List.perm_ext_iff_of_nodup hx.nd hy.nd).mpr h) hx.le hy.le
/-! ### clauses -/
def Cl (n : Nat) (c : List Int) : Prop := c ≠ [] ∧ (c.map Int.natAbs).Pairwise (· < ·) ∧ ∀ s ∈ c, Sg n s
def ledC (t c : List Int) : List Int := sortA (c.map (led t))
section
variable {n : Nat} {t u a b c d : List Int} {s : Int}
theorem Cl.nd (h : Cl n c) : (c.map Int.natAbs).Nodup := h.2.1.imp fun h => Nat.ne_of_lt h
theorem Cl.len (h : Cl n c) : c.length ≤ n := by
  have h1 : (c.map Int.natAbs).Nodup := h.nd
  have h2 : ∀ x ∈ c.map Int.natAbs, x ∈ List.range' 1 n := fun x m => by
    obtain ⟨s, ms, rfl⟩ := List.mem_map.mp m
    have := h.2.2 s ms
    rw [List.mem_range'_1]; unfold Sg at this; omega
  refine Nat.le_of_not_lt fun hlt => ?_
  have p := perm_of_sub h1 h2 (by simp; omega)
  have := p.length_eq
  simp at this
  omega
theorem led_nd (ht : IsT n t) (hc : ∀ s ∈ c, Sg n s) (nd : (c.map Int.natAbs).Nodup) : ((c.map (led t)).map Int.natAbs).Nodup := by
  rw [List.map_map]
  unfold List.Nodup
  rw [List.pairwise_map]
  have h2 := List.pairwise_map.mp nd
  exact h2.imp_of_mem fun {x y} mx my hne e => hne (led_inj ht (hc x mx) (hc y my) e)
theorem sortA_strict {l : List Int} (nd : (l.map Int.natAbs).Nodup) : ((sortA l).map Int.natAbs).Pairwise (· < ·) := by
  have h1 : ((sortA l).map Int.natAbs).Nodup := ((sortA_perm l).map _).nodup_iff.mpr nd
  have h2 : ((sortA l).map Int.natAbs).Pairwise (· ≤ ·) := List.pairwise_map.mpr (sortA_sorted l)
  exact (h2.and h1).imp fun h => Nat.lt_of_le_of_ne h.1 h.2
theorem ledC_Cl (hc : Cl n c) (ht : IsT n t) : Cl n (ledC t c) := by
  refine ⟨fun e => hc.1 ?_, sortA_strict (led_nd ht hc.2.2 hc.nd), fun s m => ?_⟩
  · have := (sortA_perm (c.map (led t))).length_eq
    unfold ledC at e
    rw [e] at this
    simpa using this.symm
  · obtain ⟨x, mx, rfl⟩ := List.mem_map.mp ((sortA_perm _).mem_iff.mp m)
    exact led_sg ht (hc.2.2 x mx)
theorem cl_sorted (hc : Cl n c) : c.Pairwise fun x y => x.natAbs ≤ y.natAbs := (List.pairwise_map.mp hc.2.1).imp fun h => Nat.le_of_lt h
theorem cl_ext (hc : Cl n c) (hd : Cl n d) (h : c.Perm d) : c = d := sortA_unique h hc.nd (cl_sorted hc) (cl_sorted hd)
theorem ledC_perm (hc : Cl n c) : (ledC t c).Perm (c.map (led t)) := sortA_perm _
theorem ledC_comp (hc : Cl n c) (ha : IsT n a) (hb : IsT n b) : ledC b (ledC a c) = ledC (comp a b) c := by
  refine cl_ext (ledC_Cl (ledC_Cl hc ha) hb) (ledC_Cl hc (comp_IsT ha hb)) ?_
  refine (sortA_perm _).trans (((sortA_perm _).map (led b)).trans ?_)
  rw [List.map_map]
  refine (List.Perm.of_eq (List.map_congr_left fun s m => ?_)).trans (sortA_perm _).symm
  exact (comp_led ha hb (hc.2.2 s m)).symm
theorem ledC_still (hc : Cl n c) : ledC (stillL n) c = c := by
  refine cl_ext (ledC_Cl hc still_IsT) hc ((sortA_perm _).trans (List.Perm.of_eq ?_))
  conv => rhs; rw [← List.map_id c]
  exact List.map_congr_left fun s m => led_still (hc.2.2 s m)
theorem ledC_back (hc : Cl n c) (ht : IsT n t) : ledC (bk t) (ledC t c) = c := by
  rw [ledC_comp hc ht (bk_IsT ht), comp_bk ht, ledC_still hc]
theorem ledC_inj (hc : Cl n c) (hd : Cl n d) (ht : IsT n t) (e : ledC t c = ledC t d) : c = d := by
  rw [← ledC_back hc ht, e, ledC_back hd ht]
end
/-! ### riddles -/
def Rid (n : Nat) (cs : List (List Int)) : Prop := Rise cs ∧ ∀ c ∈ cs, Cl n c
def ledR (t : List Int) (cs : List (List Int)) : List (List Int) := sortT (cs.map (ledC t))
section
variable {n : Nat} {t a b : List Int} {cs : List (List Int)}
theorem ledR_nd (h : Rid n cs) (ht : IsT n t) : (cs.map (ledC t)).Nodup := by
  unfold List.Nodup
  rw [List.pairwise_map]
  exact h.1.nd.imp_of_mem fun {x y} mx my hne e => hne (ledC_inj (h.2 x mx) (h.2 y my) ht e)
theorem mem_ledR {c : List Int} : c ∈ ledR t cs ↔ ∃ x ∈ cs, ledC t x = c := by
  unfold ledR
  rw [(sortT_perm _).mem_iff, List.mem_map]
theorem ledR_Rid (h : Rid n cs) (ht : IsT n t) : Rid n (ledR t cs) := ⟨sortT_rise (ledR_nd h ht), fun c m => by
  obtain ⟨x, mx, rfl⟩ := mem_ledR.mp m
  exact ledC_Cl (h.2 x mx) ht⟩
theorem ledR_len : (ledR t cs).length = cs.length := by
  unfold ledR
  rw [(sortT_perm _).length_eq, List.length_map]
theorem ledR_comp (h : Rid n cs) (ha : IsT n a) (hb : IsT n b) : ledR b (ledR a cs) = ledR (comp a b) cs := by
  refine sortT_eq (((sortT_perm _).map (ledC b)).trans ?_)
  rw [List.map_map]
  exact List.Perm.of_eq (List.map_congr_left fun c m => ledC_comp (h.2 c m) ha hb)
theorem ledR_still (h : Rid n cs) : ledR (stillL n) cs = cs := by
  have e : cs.map (ledC (stillL n)) = cs := by
    conv => rhs; rw [← List.map_id cs]
    exact List.map_congr_left fun c m => ledC_still (h.2 c m)
  unfold ledR
  rw [e, sortT_id h.1.le]
theorem ledR_back (h : Rid n cs) (ht : IsT n t) : ledR (bk t) (ledR t cs) = cs := by
  rw [ledR_comp h ht (bk_IsT ht), comp_bk ht, ledR_still h]
end
/-! ### answers -/
def Bits (n : Nat) (a : List Int) : Prop := a.length = n ∧ ∀ b ∈ a, b = 0 ∨ b = 1
def so (a : List Int) (s : Int) : Bool := decide (a.getD (s.natAbs - 1) 0 = if 0 < s then 1 else 0)
def keepsC (a c : List Int) : Bool := c.any (so a)
def keepsR (cs : List (List Int)) (a : List Int) : Bool := cs.all (keepsC a)
def ledB (t a : List Int) : List Int := scat ((a.zip t).map fun p => (p.2.natAbs - 1, if 0 < p.2 then p.1 else 1 - p.1)) (List.replicate a.length 0)
section
variable {n : Nat} {t u a b x y c : List Int} {s : Int} {cs : List (List Int)}
theorem Bits.at (h : Bits n a) (k : Nat) : a.getD k 0 = 0 ∨ a.getD k 0 = 1 := by
  by_cases hk : k < a.length
  · exact h.2 _ (getD_mem hk)
  · left
    simp [List.getD_eq_getElem?_getD, List.getElem?_eq_none (Nat.le_of_not_lt hk)]
theorem so_opp (h : Bits n a) (hs : Sg n s) : so a (-s) = !so a s := by
  unfold so
  rw [Int.natAbs_neg]
  have h0 := hs.ne
  rcases h.at (s.natAbs - 1) with e | e
  all_goals
    rw [e]
    by_cases p : 0 < s
    · simp [p, show ¬ (0 < -s) by omega] <;> omega
    · simp [p, show (0 < -s) by omega] <;> omega
theorem bits_ext (ha : Bits n a) (hb : Bits n b) (h : ∀ k : Nat, 1 ≤ k → k ≤ n → so a k = so b k) : a = b := by
  refine List.ext_getElem (by rw [ha.1, hb.1]) fun i h1 h2 => ?_
  have := h (i + 1) (by omega) (by have := ha.1; omega)
  unfold so at this
  have e : ((i + 1 : Nat) : Int).natAbs - 1 = i := by omega
  rw [e, if_pos (by omega)] at this
  have q1 := ha.2 _ (List.getElem_mem h1)
  have q2 := hb.2 _ (List.getElem_mem h2)
  simp only [List.getD_eq_getElem?_getD, List.getElem?_eq_getElem h1, List.getElem?_eq_getElem h2, Option.getD_some] at this
  rcases q1 with q1 | q1 <;> rcases q2 with q2 | q2 <;> rw [q1, q2] at this ⊢ <;> simp at this
theorem ledB_len : (ledB t a).length = a.length := by unfold ledB; rw [scat_len, List.length_replicate]
theorem zip_snd (h : a.length = t.length) : (a.zip t).map (fun p => p.2.natAbs) = t.map Int.natAbs := by
  have : (a.zip t).map (fun p => p.2.natAbs) = ((a.zip t).map (·.2)).map Int.natAbs := by rw [List.map_map]; rfl
  rw [this, List.map_snd_zip (by omega)]
theorem ledB_at (ha : Bits n a) (ht : IsT n t) {i : Nat} (hi : i < n) : (ledB t a)[(t.getD i 0).natAbs - 1]? = some (if 0 < t.getD i 0 then a.getD i 0 else 1 - a.getD i 0) := by
  have hl := ht.len
  have hit : i < t.length := by omega
  have hia : i < a.length := by have := ha.1; omega
  have e1 : t.getD i 0 = t[i] := by simp [List.getD_eq_getElem?_getD, hit]
  have e2 : a.getD i 0 = a[i] := by simp [List.getD_eq_getElem?_getD, hia]
  have hm : (a[i], t[i]) ∈ a.zip t := by
    rw [List.mem_iff_getElem]
    exact ⟨i, by simp; omega, by simp⟩
  have hsg := ht.sg (List.getElem_mem hit)
  rw [e1, e2]
  refine scat_at (p := (t[i].natAbs - 1, if 0 < t[i] then a[i] else 1 - a[i])) ?_ (List.mem_map.mpr ⟨_, hm, rfl⟩) (by rw [List.length_replicate, ha.1]; unfold Sg at hsg; show t[i].natAbs - 1 < n; omega)
  refine places_nd (fun p : Int × Int => p.2) _ ?_ fun p mp => ?_
  · rw [zip_snd (by rw [ha.1, hl])]; exact ht.nd
  · obtain ⟨z, w⟩ := p
    exact (ht.sg (List.of_mem_zip mp).2).1
theorem ledB_Bits (ha : Bits n a) (ht : IsT n t) : Bits n (ledB t a) := by
  refine ⟨by rw [ledB_len, ha.1], fun b m => ?_⟩
  obtain ⟨j, hj, rfl⟩ := List.getElem_of_mem m
  rw [ledB_len, ha.1] at hj
  obtain ⟨x, mx, ex⟩ := ht.sur (k := j + 1) (by omega) (by omega)
  obtain ⟨i, hi, rfl⟩ := List.getElem_of_mem mx
  have hin : i < n := by have := ht.len; omega
  have key := ledB_at ha ht hin
  have e1 : t.getD i 0 = t[i] := by simp [List.getD_eq_getElem?_getD, hi]
  rw [e1, ex, Nat.add_sub_cancel, List.getElem?_eq_getElem (by rw [ledB_len, ha.1]; exact hj)] at key
  have k2 := Option.some.inj key
  rw [k2]
  rcases ha.at i with q | q <;> rw [q] <;> split <;> simp
theorem so_led (ha : Bits n a) (ht : IsT n t) (hs : Sg n s) : so (ledB t a) (led t s) = so a s := by
  have hi : s.natAbs - 1 < n := by unfold Sg at hs; omega
  have hz := (ht.sg (getD_mem (t := t) (i := s.natAbs - 1) (by rw [ht.len]; exact hi))).ne
  have key := ledB_at ha ht hi
  have e : (ledB t a).getD ((led t s).natAbs - 1) 0 = if 0 < t.getD (s.natAbs - 1) 0 then a.getD (s.natAbs - 1) 0 else 1 - a.getD (s.natAbs - 1) 0 := by
    rw [led_abs hs, List.getD_eq_getElem?_getD, key]; rfl
  unfold so
  rw [e, led_at hs]
  have h0 := hs.ne
  have h1 := ha.at (s.natAbs - 1)
  generalize a.getD (s.natAbs - 1) 0 = z at h1 ⊢
  generalize t.getD (s.natAbs - 1) 0 = w at hz ⊢
  by_cases p : 0 < s
  · by_cases r : 0 < w
    · simp only [p, r, if_true]
    · simp only [p, r, if_true, if_false]
      refine decide_eq_decide.mpr ?_
      omega
  · by_cases r : 0 < w
    · have v : ¬ 0 < -w := by omega
      simp only [p, r, v, if_true, if_false]
    · have v : 0 < -w := by omega
      simp only [p, r, v, if_true, if_false]
      refine decide_eq_decide.mpr ?_
      omega
theorem any_perm {α : Type} {l m : List α} (h : l.Perm m) (p : α → Bool) : l.any p = m.any p := by
  rw [Bool.eq_iff_iff, List.any_eq_true, List.any_eq_true]
  exact ⟨fun ⟨x, m, q⟩ => ⟨x, h.mem_iff.mp m, q⟩, fun ⟨x, m, q⟩ => ⟨x, h.mem_iff.mpr m, q⟩⟩
theorem all_perm {α : Type} {l m : List α} (h : l.Perm m) (p : α → Bool) : l.all p = m.all p := by
  rw [Bool.eq_iff_iff, List.all_eq_true, List.all_eq_true]
  exact ⟨fun q x m => q x (h.mem_iff.mpr m), fun q x m => q x (h.mem_iff.mp m)⟩
theorem any_congr {α : Type} {l : List α} {p q : α → Bool} (h : ∀ x ∈ l, p x = q x) : l.any p = l.any q := by
  rw [Bool.eq_iff_iff, List.any_eq_true, List.any_eq_true]
  exact ⟨fun ⟨x, m, e⟩ => ⟨x, m, by rw [← h x m]; exact e⟩, fun ⟨x, m, e⟩ => ⟨x, m, by rw [h x m]; exact e⟩⟩
theorem all_congr {α : Type} {l : List α} {p q : α → Bool} (h : ∀ x ∈ l, p x = q x) : l.all p = l.all q := by
  rw [Bool.eq_iff_iff, List.all_eq_true, List.all_eq_true]
  exact ⟨fun z x m => by rw [← h x m]; exact z x m, fun z x m => by rw [h x m]; exact z x m⟩
theorem keepsC_led (ha : Bits n a) (ht : IsT n t) (hc : Cl n c) : keepsC (ledB t a) (ledC t c) = keepsC a c := by
  unfold keepsC
  rw [any_perm (ledC_perm hc), List.any_map]
  exact any_congr fun s m => so_led ha ht (hc.2.2 s m)
theorem keepsR_led (ha : Bits n a) (ht : IsT n t) (h : Rid n cs) : keepsR (ledR t cs) (ledB t a) = keepsR cs a := by
  unfold keepsR ledR
  rw [all_perm (sortT_perm _), List.all_map]
  exact all_congr fun c m => keepsC_led ha ht (h.2 c m)
theorem ledB_comp (ha : Bits n a) (hx : IsT n x) (hy : IsT n y) : ledB y (ledB x a) = ledB (comp x y) a := by
  have hxy := comp_IsT hx hy
  refine bits_ext (ledB_Bits (ledB_Bits ha hx) hy) (ledB_Bits ha hxy) fun k h1 h2 => ?_
  have hk : Sg n (k : Int) := by unfold Sg; omega
  have e := led_bk hxy hk
  have hs := led_sg (bk_IsT hxy) hk
  conv => lhs; rw [← e, comp_led hx hy hs]
  rw [so_led (ledB_Bits ha hx) hy (led_sg hx hs), so_led ha hx hs]
  conv => rhs; rw [← e]
  rw [so_led ha hxy hs]
theorem ledB_still (ha : Bits n a) : ledB (stillL n) a = a := by
  refine bits_ext (ledB_Bits ha still_IsT) ha fun k h1 h2 => ?_
  have hk : Sg n (k : Int) := by unfold Sg; omega
  have := so_led ha still_IsT hk
  rw [led_still hk] at this
  exact this
theorem ledB_back (ha : Bits n a) (ht : IsT n t) : ledB (bk t) (ledB t a) = a := by
  rw [ledB_comp ha ht (bk_IsT ht), comp_bk ht, ledB_still ha]
theorem ledB_inj (ha : Bits n a) (hb : Bits n b) (ht : IsT n t) (e : ledB t a = ledB t b) : a = b := by
  rw [← ledB_back ha ht, e, ledB_back hb ht]
end
/-! ### all answers -/
def allA : Nat → List (List Int)
  | 0 => [[]]
  | n + 1 => (allA n).flatMap fun b => [b ++ [0], b ++ [1]]
theorem mem_allA : ∀ {n : Nat} {a : List Int}, a ∈ allA n ↔ Bits n a
  | 0, a => by
    unfold allA Bits
    rw [List.mem_singleton]
    exact ⟨fun e => by subst e; exact ⟨rfl, fun _ m => nomatch m⟩, fun h => List.length_eq_zero_iff.mp h.1⟩
  | n + 1, a => by
    unfold allA
    rw [List.mem_flatMap]
    constructor
    · rintro ⟨b, mb, h⟩
      have hb := mem_allA.mp mb
      rcases List.mem_cons.mp h with rfl | h
      · exact ⟨by simp [hb.1], fun x m => (List.mem_append.mp m).elim (hb.2 x) fun m => .inl (List.mem_singleton.mp m)⟩
      · rw [List.mem_singleton.mp h]
        exact ⟨by simp [hb.1], fun x m => (List.mem_append.mp m).elim (hb.2 x) fun m => .inr (List.mem_singleton.mp m)⟩
    · rintro ⟨hl, hb⟩
      have hne : a ≠ [] := fun e => by rw [e] at hl; cases hl
      have e := List.dropLast_concat_getLast hne
      refine ⟨a.dropLast, mem_allA.mpr ⟨by rw [List.length_dropLast]; omega, fun x m => hb x ((List.dropLast_sublist a).subset m)⟩, ?_⟩
      rcases hb _ (List.getLast_mem hne) with q | q <;> rw [q] at e
      · rw [e]; simp
      · rw [e]; simp
theorem lt_append_same : ∀ {a b x y : List Int}, lt a b → a.length = b.length → lt (a ++ x) (b ++ y)
  | [], [], _, _, h, _ => absurd h (lt_irr [])
  | [], _ :: _, _, _, _, h => nomatch h
  | _ :: _, [], _, _, _, h => nomatch h
  | p :: a, q :: b, x, y, h, hl => by
    unfold lt at h ⊢
    rw [HT.lexLt_cons] at h
    rw [List.cons_append, List.cons_append, HT.lexLt_cons]
    by_cases e : p = q
    · rw [if_pos e] at h ⊢
      exact lt_append_same (a := a) (b := b) h (by simpa using hl)
    · rw [if_neg e] at h ⊢; exact h
theorem lt_append_left : ∀ (a : List Int) {x y : List Int}, lt x y → lt (a ++ x) (a ++ y)
  | [], _, _, h => h
  | p :: a, x, y, h => by
    unfold lt
    rw [List.cons_append, List.cons_append, HT.lexLt_cons, if_pos rfl]
    exact lt_append_left a h
theorem allA_rise : ∀ n, Rise (allA n)
  | 0 => by simp [Rise, allA]
  | n + 1 => by
    unfold Rise allA
    rw [List.pairwise_flatMap]
    refine ⟨fun b _ => ?_, (allA_rise n).imp_of_mem fun {b c} mb mc h x mx y my => ?_⟩
    · refine List.pairwise_cons.mpr ⟨fun z mz => ?_, by simp⟩
      rw [List.mem_singleton.mp mz]
      exact lt_append_left b (by decide)
    · have hl : b.length = c.length := by rw [(mem_allA.mp mb).1, (mem_allA.mp mc).1]
      have hx : ∃ u, x = b ++ u := by
        rcases List.mem_cons.mp mx with e | e
        · exact ⟨_, e⟩
        · exact ⟨_, List.mem_singleton.mp e⟩
      have hy : ∃ u, y = c ++ u := by
        rcases List.mem_cons.mp my with e | e
        · exact ⟨_, e⟩
        · exact ⟨_, List.mem_singleton.mp e⟩
      obtain ⟨u, rfl⟩ := hx
      obtain ⟨v, rfl⟩ := hy
      exact lt_append_same h hl
theorem allA_len : ∀ n, (allA n).length = 2 ^ n
  | 0 => rfl
  | n + 1 => by
    unfold allA
    rw [List.length_flatMap]
    simp only [List.length_cons, List.length_nil, List.map_const', List.sum_replicate_nat, allA_len n]
    omega
def ansL (n : Nat) (cs : List (List Int)) : List (List Int) := (allA n).filter (keepsR cs)
section
variable {n : Nat} {t a : List Int} {cs : List (List Int)}
theorem ansL_rise : Rise (ansL n cs) := (allA_rise n).filter _
theorem mem_ansL : a ∈ ansL n cs ↔ Bits n a ∧ keepsR cs a = true := by
  unfold ansL
  rw [List.mem_filter, mem_allA]
theorem ansL_led (h : Rid n cs) (ht : IsT n t) : sortT ((ansL n cs).map (ledB t)) = ansL n (ledR t cs) := by
  refine rise_ext (sortT_rise ?_) ansL_rise fun z => ?_
  · unfold List.Nodup
    rw [List.pairwise_map]
    exact (ansL_rise (cs := cs)).nd.imp_of_mem fun {x y} mx my hne e => hne (ledB_inj (mem_ansL.mp mx).1 (mem_ansL.mp my).1 ht e)
  · rw [(sortT_perm _).mem_iff, List.mem_map]
    constructor
    · rintro ⟨x, mx, rfl⟩
      obtain ⟨hx, hk⟩ := mem_ansL.mp mx
      exact mem_ansL.mpr ⟨ledB_Bits hx ht, by rw [keepsR_led hx ht h]; exact hk⟩
    · intro mz
      obtain ⟨hz, hk⟩ := mem_ansL.mp mz
      have hb := bk_IsT ht
      have e : ledB t (ledB (bk t) z) = z := by rw [ledB_comp hz hb ht, bk_comp ht, ledB_still hz]
      refine ⟨ledB (bk t) z, mem_ansL.mpr ⟨ledB_Bits hz hb, ?_⟩, e⟩
      rw [← keepsR_led (ledB_Bits hz hb) ht h, e]; exact hk
end
end LW

set_option Elab.async false
set_option linter.all false
set_option maxRecDepth 100000
set_option maxHeartbeats 4000000
namespace LW
open PySem PySem.Spec PyProof.Rows L2 VS
/-! ### all clauses -/
def Cl0 (n : Nat) (c : List Int) : Prop := (c.map Int.natAbs).Pairwise (· < ·) ∧ ∀ s ∈ c, Sg n s
theorem Cl.cl0 {n : Nat} {c : List Int} (h : Cl n c) : Cl0 n c := h.2
def allC : Nat → List (List Int)
  | 0 => [[]]
  | n + 1 => (allC n).flatMap fun b => [b, b ++ [((n + 1 : Nat) : Int)], b ++ [-((n + 1 : Nat) : Int)]]
theorem allC_len : ∀ n, (allC n).length = 3 ^ n
  | 0 => rfl
  | n + 1 => by
    unfold allC
    rw [List.length_flatMap]
    simp only [List.length_cons, List.length_nil, List.map_const', List.sum_replicate_nat, allC_len n]
    omega
theorem mem_allC : ∀ {n : Nat} {c : List Int}, Cl0 n c → c ∈ allC n
  | 0, c, h => by
    cases c with
    | nil => exact List.mem_singleton.mpr rfl
    | cons s c =>
      have := h.2 s List.mem_cons_self
      unfold Sg at this; omega
  | n + 1, c, ⟨hp, hs⟩ => by
    unfold allC
    rw [List.mem_flatMap]
    by_cases hb : ∃ s ∈ c, s.natAbs = n + 1
    · obtain ⟨s, ms, es⟩ := hb
      have hne : c ≠ [] := fun e => by rw [e] at ms; cases ms
      have e := List.dropLast_concat_getLast hne
      rw [← e, List.map_append, List.pairwise_append] at hp
      obtain ⟨h1, _, h2⟩ := hp
      have hl : s = c.getLast hne := by
        rw [← e] at ms
        rcases List.mem_append.mp ms with m | m
        · have q := h2 s.natAbs (List.mem_map.mpr ⟨s, m, rfl⟩) (c.getLast hne).natAbs (by simp)
          have := hs _ (List.getLast_mem hne)
          unfold Sg at this; omega
        · exact List.mem_singleton.mp m
      refine ⟨c.dropLast, mem_allC ⟨h1, fun x m => ?_⟩, ?_⟩
      · have q := h2 x.natAbs (List.mem_map.mpr ⟨x, m, rfl⟩) (c.getLast hne).natAbs (by simp)
        rw [← hl, es] at q
        have := hs x ((List.dropLast_sublist c).subset m)
        unfold Sg at this ⊢; omega
      · rw [← hl] at e
        have : s = ((n + 1 : Nat) : Int) ∨ s = -((n + 1 : Nat) : Int) := by omega
        rcases this with q | q
        · rw [← q, e]; simp
        · rw [← q, e]; simp
    · refine ⟨c, mem_allC ⟨hp, fun x m => ?_⟩, by simp⟩
      have := hs x m
      have q : x.natAbs ≠ n + 1 := fun z => hb ⟨x, m, z⟩
      unfold Sg at this ⊢; omega
theorem sub_len {α : Type} [DecidableEq α] {l m : List α} (nd : l.Nodup) (h : ∀ x ∈ l, x ∈ m) : l.length ≤ m.length := by
  refine Nat.le_of_not_lt fun hlt => ?_
  have p := perm_of_sub nd h (by omega)
  have := p.length_eq
  omega
theorem cls_len {n : Nat} (hn : n ≤ 5) {cs : List (List Int)} (nd : cs.Nodup) (h : ∀ c ∈ cs, Cl n c) : cs.length ≤ 243 := by
  have := sub_len nd fun c m => mem_allC (h c m).cl0
  rw [allC_len] at this
  exact Nat.le_trans this (Nat.le_trans (Nat.pow_le_pow_right (by decide) hn) (by decide))
end LW

set_option Elab.async false
set_option linter.all false
set_option maxRecDepth 100000
set_option maxHeartbeats 4000000
namespace LW
open PySem PySem.Spec PyProof.Rows L2 VS
abbrev dTups (ts : List (List Int)) : List D := ts.map dTup
abbrev dRid (n : Nat) (cs : List (List Int)) : D := .tuple [.int n, .tuple (dTups cs)]
/-! ### what is drawn -/
theorem fmod_b {a b : Int} (h : 0 < b) : 0 ≤ a.fmod b ∧ a.fmod b < b := ⟨Int.fmod_nonneg_of_pos a h, Int.fmod_lt_of_pos a h⟩
theorem cmul_l {i j : Int} (h1 : -(2 ^ 64) < i) (h2 : i < 2 ^ 64) : CMul i j := Or.inl ⟨h1, h2⟩
theorem cmul_r {i j : Int} (h1 : -(2 ^ 64) < j) (h2 : j < 2 ^ 64) : CMul i j := Or.inr ⟨h1, h2⟩
def StOk (ds : List D) : Prop := (∃ x : Int, 0 ≤ x ∧ ds = [.int x, .bool true]) ∨ ∃ x : Int, 0 ≤ x ∧ x < 2147483647 ∧ ds = [.int x, .bool false]
theorem setR0 {a b d : D} : setR [a, b] (.int 0) d = .ok [d, b] := setR_ok (n := 0) (by simp)
theorem take_sat {st : List D} {m : Int} (h : StOk st) (h1 : 0 < m) (h2 : m < 1048576) : Sat (g__law_take st (.int m)) fun p => ∃ r : Int, p.1 = .int r ∧ 0 ≤ r ∧ r < m ∧ StOk p.2 := by
  have hm : m ≠ 0 := by omega
  unfold g__law_take
  rcases h with ⟨x, hx, rfl⟩ | ⟨x, hx, hx2, rfl⟩
  · have hd : CDivN x m := ⟨hm, by omega⟩
    have hb := fmod_b (a := x) h1
    refine ⟨(.int (x.fmod m), [.int (x.fdiv m), .bool true]), ?_, _, rfl, hb.1, hb.2, Or.inl ⟨_, Int.fdiv_nonneg hx (by omega), rfl⟩⟩
    simp only [rb_ok, rb_exc, asB_b, asI_i, i_sub, i_add, i_neg, i_abs, i_gt, i_ge, i_lt, i_le, i_eq, i_ne, i_intB, bIf_t, bIf_f, nxR_ok, nxR_exc, asS_l, asS_t, len_l, len_t, tup_l, asT2_t, asOI_i, Bool.not_true, Bool.not_false, dIx_l0, dIx_l1, i_mod hm, i_div hd, setR0]
  · have bs := fmod_b (a := x * 48271 + 29) (b := 2147483647) (by decide)
    generalize hs : (x * 48271 + 29).fmod 2147483647 = s at bs
    have bt := fmod_b (a := s * s + 39373 * s + 7) (b := 2147483629) (by decide)
    generalize ht : (s * s + 39373 * s + 7).fmod 2147483629 = t at bt
    generalize hu : (t * t + 16807 * t).fmod 2147483587 = u
    have c1 : CMul x 48271 := cmul_r (by decide) (by decide)
    have c2 : CMul s s := cmul_l (by omega) (by omega)
    have c3 : CMul 39373 s := cmul_l (by decide) (by decide)
    have c4 : CMul t t := cmul_l (by omega) (by omega)
    have c5 : CMul 16807 t := cmul_l (by decide) (by decide)
    have c6 : CDivN u 8 := ⟨by decide, by decide⟩
    have n1 : (2147483647 : Int) ≠ 0 := by decide
    have n2 : (2147483629 : Int) ≠ 0 := by decide
    have n3 : (2147483587 : Int) ≠ 0 := by decide
    have hb := fmod_b (a := u.fdiv 8) h1
    refine ⟨(.int ((u.fdiv 8).fmod m), [.int s, .bool false]), ?_, _, rfl, hb.1, hb.2, Or.inr ⟨_, bs.1, bs.2, rfl⟩⟩
    simp only [rb_ok, rb_exc, asB_b, asI_i, i_sub, i_add, i_neg, i_abs, i_gt, i_ge, i_lt, i_le, i_eq, i_ne, i_intB, bIf_t, bIf_f, nxR_ok, nxR_exc, asS_l, asS_t, len_l, len_t, tup_l, asT2_t, asOI_i, Bool.not_true, Bool.not_false, dIx_l0, dIx_l1, i_mod hm, i_mod n1, i_mod n2, i_mod n3, i_mul c1, i_mul c2, i_mul c3, i_mul c4, i_mul c5, i_div c6, hs, ht, hu, setR0]
theorem cell_sat (ns : List Int) (k : Nat) : Sat (g__law_cell_at ns (.int k)) fun d => ∃ c : Int, d = .int c := by
  unfold g__law_cell_at
  by_cases h : (k : Int) < ns.length
  · have hk : k < ns.length := by omega
    have e : VS.atS ns k = .ok (.int ns[k]) := by
      unfold VS.atS atI ixN
      rw [if_pos (by omega), if_pos h]
      simp [hk]
    refine ⟨.int ns[k], ?_, _, rfl⟩
    simp only [rb_ok, rb_exc, asB_b, asI_i, i_sub, i_add, i_neg, i_abs, i_gt, i_ge, i_lt, i_le, i_eq, i_ne, i_intB, bIf_t, bIf_f, nxR_ok, nxR_exc, asS_l, asS_t, len_l, len_t, tup_l, asT2_t, asOI_i, Bool.not_true, Bool.not_false, h, decide_true, e]
  · refine ⟨.int 0, ?_, _, rfl⟩
    simp only [rb_ok, rb_exc, asB_b, asI_i, i_sub, i_add, i_neg, i_abs, i_gt, i_ge, i_lt, i_le, i_eq, i_ne, i_intB, bIf_t, bIf_f, nxR_ok, nxR_exc, asS_l, asS_t, len_l, len_t, tup_l, asT2_t, asOI_i, Bool.not_true, Bool.not_false, h, decide_false]
theorem p18 : CPow 10 18 := by decide
theorem state_sat (ns : List Int) (k : Nat) : Sat (g__law_state ns (.int k)) StOk := by
  obtain ⟨_, hc, c, rfl⟩ := cell_sat ns k
  have e18 : (10 : Int) ^ (18 : Int).toNat = 1000000000000000000 := rfl
  have n1 : (2147483647 : Int) ≠ 0 := by decide
  unfold g__law_state
  by_cases h : (1000000000000000000 : Int) ≤ c
  · refine ⟨[.int (c - 1000000000000000000), .bool true], ?_, Or.inl ⟨_, by omega, rfl⟩⟩
    simp only [rb_ok, rb_exc, asB_b, asI_i, i_sub, i_add, i_neg, i_abs, i_gt, i_ge, i_lt, i_le, i_eq, i_ne, i_intB, bIf_t, bIf_f, nxR_ok, nxR_exc, asS_l, asS_t, len_l, len_t, tup_l, asT2_t, asOI_i, Bool.not_true, Bool.not_false, hc, i_pow p18, e18, h, decide_true]
  · have bs := fmod_b (a := c) (b := 2147483647) (by decide)
    refine ⟨[.int (c.fmod 2147483647), .bool false], ?_, Or.inr ⟨_, bs.1, bs.2, rfl⟩⟩
    simp only [rb_ok, rb_exc, asB_b, asI_i, i_sub, i_add, i_neg, i_abs, i_gt, i_ge, i_lt, i_le, i_eq, i_ne, i_intB, bIf_t, bIf_f, nxR_ok, nxR_exc, asS_l, asS_t, len_l, len_t, tup_l, asT2_t, asOI_i, Bool.not_true, Bool.not_false, hc, i_pow p18, e18, h, decide_false, i_mod n1]
/-- a drawn number as an index -/
theorem take_bind {α : Type} {st : List D} {m : Int} {f : D × List D → Res α} {Φ : α → Prop} (h : StOk st) (h1 : 0 < m) (h2 : m < 1048576) (k : ∀ (r : Nat) (st' : List D), (r : Int) < m → StOk st' → Sat (f (.int r, st')) Φ) : Sat ((g__law_take st (.int m)).bind f) Φ := by
  refine (take_sat h h1 h2).bind fun p ⟨r, e1, r0, r1, hs⟩ => ?_
  obtain ⟨d, st'⟩ := p
  obtain ⟨n, rfl⟩ := Int.eq_ofNat_of_zero_le r0
  have e1' : d = .int n := e1
  subst e1'
  exact k n st' r1 hs
theorem range_ints (n : Nat) (a : Int) : ((List.range n).map fun k : Nat => PyData.int (a + k)) = dInts ((List.range n).map fun k : Nat => a + (k : Int)) := by
  unfold dInts; rw [List.map_map]; rfl
theorem sign_at {r : Nat} (h : (r : Int) < 2) : ∃ z : Int, (z = 1 ∨ z = -1) ∧ dIx (.list [.int 1, .int (-1)]) (.int r) = .ok (.int z) := by
  have : r = 0 ∨ r = 1 := by omega
  rcases this with rfl | rfl
  · exact ⟨1, .inl rfl, dIx_l (n := 0) rfl⟩
  · exact ⟨-1, .inr rfl, dIx_l (n := 1) rfl⟩
theorem mul_sign {x z : Int} (h : z = 1 ∨ z = -1) : ∃ y : Int, dMul (.int x) (.int z) = .ok (.int y) ∧ y.natAbs = x.natAbs := by
  rcases h with rfl | rfl
  · exact ⟨x, i_mul1 x, rfl⟩
  · exact ⟨-x, i_mulm x, Int.natAbs_neg x⟩
theorem er_map : ∀ (t : List Int) (i : Nat), (t.map PyData.int).eraseIdx i = (t.eraseIdx i).map PyData.int
  | [], _ => rfl
  | _ :: _, 0 => rfl
  | x :: t, i + 1 => by simp only [List.map_cons, List.eraseIdx_cons_succ, er_map t i]
theorem popAtR_ok {t : List Int} {r : Nat} (h : r < t.length) (hl : t.length ≤ 1000) : popAtR (dInts t) (.int r) = .ok (.int t[r], dInts (t.eraseIdx r)) := by
  have hs : seqIndex? (r : Int) (dInts t).length = some r := by
    have hi : ixN (dInts t).length (r : Int) = some r := by
      unfold ixN
      rw [List.length_map, if_pos (by omega), if_pos (by omega)]; simp
    exact (ixN_seq hi).1
  have hg : (dInts t)[r]? = some (PyData.int t[r]) := by simp [h]
  unfold popAtR
  simp only [hs, hg]
  rw [if_pos ⟨by omega, by omega⟩]
  show Res.ok (_, (dInts t).eraseIdx r) = _
  unfold dInts
  rw [er_map]
theorem erase_perm {α : Type} : ∀ {l : List α} {i : Nat} (h : i < l.length), (l[i] :: l.eraseIdx i).Perm l
  | x :: l, 0, _ => List.Perm.refl _
  | x :: l, i + 1, h => by
    simp only [List.getElem_cons_succ, List.eraseIdx_cons_succ]
    exact (List.Perm.swap _ _ _).trans (List.Perm.cons x (erase_perm (by simpa using h)))
theorem turning_sat {st : List D} {n : Nat} (hs : StOk st) (hn : n ≤ 5) : Sat (g__law_turning st (.int n)) fun p => ∃ t, p.1 = dTup t ∧ IsT n t ∧ StOk p.2 := by
  unfold g__law_turning
  refine Sat.nx ?_
  have e1 : gRgL (1, (n : Int) + 1) = .ok (dInts (stillL n)) := by
    rw [show (n : Int) + 1 = 1 + n by omega, gRgL_nat (by omega) (by omega), range_ints]
  simp only [rb_ok, rb_exc, asB_b, asI_i, i_sub, i_add, i_neg, i_abs, i_gt, i_ge, i_lt, i_le, i_eq, i_ne, i_intB, bIf_t, bIf_f, nxR_ok, nxR_exc, asS_l, asS_t, len_l, len_t, tup_l, asT2_t, asOI_i, Bool.not_true, Bool.not_false, e1, gRg_nat (show n < 2 ^ 62 by omega)]
  have key : Sat (foldR g__law_turning_L1 ((List.range n).map fun k : Nat => .int k) (st, dInts (stillL n), [])) fun s => ∃ st' rs fs, s = (st', dInts rs, dInts fs) ∧ StOk st' ∧ rs.length = 0 ∧ (fs.map Int.natAbs ++ rs.map Int.natAbs).Perm (List.range' 1 n) := by
    refine foldR_sat (I := fun rest s => ∃ st' rs fs, s = (st', dInts rs, dInts fs) ∧ StOk st' ∧ rs.length = rest.length ∧ (fs.map Int.natAbs ++ rs.map Int.natAbs).Perm (List.range' 1 n)) (fun d rest s ⟨st', rs, fs, es, h1, h2, h3⟩ => ?_) ⟨st, stillL n, [], rfl, hs, by simp, still_IsT⟩
    subst es
    have hl : rs.length ≤ n := by
      have := h3.length_eq
      simp at this; omega
    have hfl : fs.length ≤ n := by
      have := h3.length_eq
      simp at this; omega
    simp only [List.length_cons] at h2
    unfold g__law_turning_L1
    simp only [List.length_map]
    refine take_bind h1 (by omega) (by omega) fun r st1 hr s1 => ?_
    have hr' : r < rs.length := by omega
    simp only [popAtR_ok hr' (by omega), rb_ok]
    refine take_bind s1 (by decide) (by decide) fun q st2 hq s2 => ?_
    obtain ⟨z, hz, ez⟩ := sign_at hq
    obtain ⟨y, ey, hy⟩ := mul_sign (x := rs[r]) hz
    simp only [ez, rb_ok, ey, appR_ok (show (dInts fs).length < 16777216 by rw [List.length_map]; omega)]
    refine ⟨_, rfl, st2, rs.eraseIdx r, fs ++ [y], ?_, s2, ?_, ?_⟩
    · unfold dInts; rw [List.map_append]; rfl
    · rw [List.length_eraseIdx, if_pos hr']; omega
    · refine List.Perm.trans ?_ h3
      rw [List.map_append, List.append_assoc]
      refine List.Perm.append_left _ ?_
      show (y.natAbs :: (rs.eraseIdx r).map Int.natAbs).Perm (rs.map Int.natAbs)
      rw [hy]
      exact (erase_perm hr').map Int.natAbs
  refine key.bind fun s ⟨st', rs, fs, es, h1, h2, h3⟩ => ?_
  subst es
  refine ⟨_, rfl, fs, rfl, ?_, h1⟩
  rw [List.length_eq_zero_iff.mp h2] at h3
  simpa [IsT] using h3
end LW

set_option Elab.async false
set_option linter.all false
set_option maxRecDepth 100000
set_option maxHeartbeats 4000000
namespace LW
open PySem PySem.Spec PyProof.Rows L2 VS
/-! ### numbers, kinds of things -/
def isW (e : D) : Bool := isTy "int" e && !isTy "bool" e
theorem whole_ok (e : D) : g_is_whole e = .ok (.bool (isW e)) := by
  unfold g_is_whole g_is_whole_A1 isW
  cases isTy "int" e <;> rfl
theorem isW_int (i : Int) : isW (.int i) = true := rfl
theorem isW_iff {e : D} : isW e = true ↔ ∃ i, e = .int i := by
  cases e with
  | int i => exact ⟨fun _ => ⟨i, rfl⟩, fun _ => rfl⟩
  | none => exact ⟨fun h => (by cases h), fun ⟨_, h⟩ => (by cases h)⟩
  | bool b => exact ⟨fun h => (by cases h), fun ⟨_, h⟩ => (by cases h)⟩
  | str s => exact ⟨fun h => (by cases h), fun ⟨_, h⟩ => (by cases h)⟩
  | list l => exact ⟨fun h => (by cases h), fun ⟨_, h⟩ => (by cases h)⟩
  | tuple l => exact ⟨fun h => (by cases h), fun ⟨_, h⟩ => (by cases h)⟩
  | dict l => exact ⟨fun h => (by cases h), fun ⟨_, h⟩ => (by cases h)⟩
def isB (e : D) (a b : Int) : Bool := match e with
  | .int i => decide (a ≤ i) && decide (i ≤ b)
  | _ => false
theorem between_ok (e : D) (a b : Int) : g_is_between e (.int a) (.int b) = .ok (.bool (isB e a b)) := by
  unfold g_is_between g_is_between_A2
  rw [whole_ok]
  cases e with
  | int i =>
    simp only [rb_ok, rb_exc, asB_b, asI_i, i_sub, i_add, i_neg, i_abs, i_gt, i_ge, i_lt, i_le, i_eq, i_ne, i_intB, bIf_t, bIf_f, nxR_ok, nxR_exc, asS_l, asS_t, len_l, len_t, tup_l, asT2_t, asOI_i, Bool.not_true, Bool.not_false, isW_int]
    unfold g_is_between_A1 isB
    by_cases h : a ≤ i <;> simp only [rb_ok, rb_exc, asB_b, asI_i, i_sub, i_add, i_neg, i_abs, i_gt, i_ge, i_lt, i_le, i_eq, i_ne, i_intB, bIf_t, bIf_f, nxR_ok, nxR_exc, asS_l, asS_t, len_l, len_t, tup_l, asT2_t, asOI_i, Bool.not_true, Bool.not_false, h, decide_true, decide_false, Bool.true_and, Bool.false_and]
  | _ => rfl
theorem between_int (i a b : Int) : g_is_between (.int i) (.int a) (.int b) = .ok (.bool (decide (a ≤ i) && decide (i ≤ b))) := between_ok _ _ _
/-! ### neighbours -/
theorem chain_iff {α : Type} {p : α → α → Bool} (tr : ∀ a b c, p a b = true → p b c = true → p a c = true) : ∀ {l : List α}, ((l.zip l.tail).all fun q => p q.1 q.2) = true ↔ l.Pairwise fun a b => p a b = true
  | [] => by simp
  | [x] => by simp
  | x :: y :: l => by
    have ih := chain_iff tr (l := y :: l)
    show (((x, y) :: (y :: l).zip l).all fun q => p q.1 q.2) = true ↔ _
    rw [List.all_cons, Bool.and_eq_true]
    have e : (y :: l).zip l = (y :: l).zip (y :: l).tail := rfl
    rw [e, ih, List.pairwise_cons (a := x)]
    constructor
    · rintro ⟨h1, h2⟩
      refine ⟨fun z m => ?_, h2⟩
      rcases List.mem_cons.mp m with rfl | m
      · exact h1
      · exact tr _ _ _ h1 ((List.pairwise_cons.mp h2).1 z m)
    · rintro ⟨h1, h2⟩
      exact ⟨h1 y List.mem_cons_self, h2⟩
theorem cut1 {ds : List D} : VS.cutD ds (some 1) none = ds.tail := by
  have h0 : HT.sIx ds.length 0 (some 1) = min 1 ds.length := by
    unfold HT.sIx
    first | rfl | (simp; done) | (simp only []; omega)
  have h1 : HT.sIx ds.length ds.length none = ds.length := by
    unfold HT.sIx
    first | rfl | simp
  unfold VS.cutD
  rw [h0, h1]
  cases ds with
  | nil => rfl
  | cons x l =>
    have : min 1 (x :: l).length = 1 := by simp
    rw [this]
    simp
theorem sl1_l {ds : List D} : dSl (.list ds) (some 1) none = .ok (.list ds.tail) := by
  rw [← cut1]; rfl
theorem sl1_t {ds : List D} : dSl (.tuple ds) (some 1) none = .ok (.tuple ds.tail) := by
  rw [← cut1]; rfl
theorem lt_dtup (a b : List Int) : dLt (dTup a) (dTup b) = .ok (.bool (HT.lexLt a b)) := by
  show (match intsOf (dInts a), intsOf (dInts b) with
    | some ns, some ms => Res.ok (PyData.bool (HT.lexLt ns ms))
    | _, _ => .bad) = _
  rw [intsOf_map, intsOf_map]
theorem tail_map {α β : Type} (f : α → β) (l : List α) : (l.map f).tail = l.tail.map f := by cases l <;> rfl
/-! ### clauses -/
def absI (s : Int) : Int := if s < 0 then -s else s
theorem absI_nat (s : Int) : absI s = (s.natAbs : Int) := by unfold absI; split <;> omega
def isCl (n : Int) (c : List Int) : Bool := !c.isEmpty && (c.all fun s => decide (-n ≤ s) && decide (s ≤ n) && !decide (s = 0)) && ((c.map absI).zip (c.map absI).tail).all fun q => decide (q.1 < q.2)
theorem isCl_iff {n : Nat} {c : List Int} : isCl n c = true ↔ Cl n c := by
  unfold isCl Cl
  rw [Bool.and_eq_true, Bool.and_eq_true, List.all_eq_true, chain_iff (p := fun a b : Int => decide (a < b)) (fun a b c h1 h2 => decide_eq_true (Int.lt_trans (of_decide_eq_true h1) (of_decide_eq_true h2)))]
  have e1 : (!c.isEmpty) = true ↔ c ≠ [] := by cases c <;> simp
  have e2 : (c.map absI).Pairwise (fun a b => decide (a < b) = true) ↔ (c.map Int.natAbs).Pairwise (· < ·) := by
    rw [List.pairwise_map, List.pairwise_map]
    constructor
    · exact fun h => h.imp fun h => by have := of_decide_eq_true h; rw [absI_nat, absI_nat] at this; omega
    · exact fun h => h.imp fun h => decide_eq_true (by rw [absI_nat, absI_nat]; omega)
  have e3 : (∀ s ∈ c, (decide (-(n : Int) ≤ s) && decide (s ≤ n) && !decide (s = 0)) = true) ↔ ∀ s ∈ c, Sg n s := by
    refine forall_congr' fun s => imp_congr_right fun _ => ?_
    simp only [Bool.and_eq_true, decide_eq_true_eq, Bool.not_eq_true', decide_eq_false_iff_not]
    unfold Sg; omega
  rw [e1, e2, e3]
  exact ⟨fun ⟨⟨a, b⟩, c⟩ => ⟨a, c, b⟩, fun ⟨a, c, b⟩ => ⟨⟨a, b⟩, c⟩⟩
theorem eq_nil (ds : List D) (h : SeqAt.shaped (.tuple ds) = true) : dEq (.tuple ds) (.tuple []) = .ok (.bool ds.isEmpty) := by
  unfold dEq
  rw [h, show (true && SeqAt.shaped (.tuple [])) = true from rfl, if_pos rfl]
  cases ds <;> rfl
theorem clause_ok {n : Int} {c : List Int} (hl : c.length ≤ 1000) : g_is_clause (.int n) (dTup c) = .ok (.bool (isCl n c)) := by
  unfold g_is_clause g_is_clause_A1 isCl
  have hty : isTy "tuple" (dTup c) = true := rfl
  rw [hty, eq_nil (dInts c) (shaped_ints c)]
  have h1 : ∀ {β : Type} (k : D → Res β), ((lcR (g_is_clause_C1 (.int n)) (dInts c)).bind fun l => (gBools (fun bs => bs.all id) (.list l)).bind k) = k (.bool (c.all fun s => decide (-n ≤ s) && decide (s ≤ n) && !decide (s = 0))) := fun k => allRk (by omega) fun s _ => by
    unfold g_is_clause_C1 g_is_clause_A2
    simp only [rb_ok, rb_exc, asB_b, asI_i, i_sub, i_add, i_neg, i_abs, i_gt, i_ge, i_lt, i_le, i_eq, i_ne, i_intB, bIf_t, bIf_f, nxR_ok, nxR_exc, asS_l, asS_t, len_l, len_t, tup_l, asT2_t, asOI_i, Bool.not_true, Bool.not_false, i_neg, between_int]
    cases h : (decide (-n ≤ s) && decide (s ≤ n)) <;> simp only [rb_ok, rb_exc, asB_b, asI_i, i_sub, i_add, i_neg, i_abs, i_gt, i_ge, i_lt, i_le, i_eq, i_ne, i_intB, bIf_t, bIf_f, nxR_ok, nxR_exc, asS_l, asS_t, len_l, len_t, tup_l, asT2_t, asOI_i, Bool.not_true, Bool.not_false, h, Bool.false_and, Bool.true_and]
  have h2 : lcR g_is_clause_C2 (dInts c) = .ok (dInts (c.map absI)) := lcR_map (emb := PyData.int) (emb' := PyData.int) (by omega) fun s _ => rfl
  have h3 : ((lcR g_is_clause_C3 (((c.map absI).zip (c.map absI).tail).map fun q => .tuple [.int q.1, .int q.2])).bind fun l => gBools (fun bs => bs.all id) (.list l)) = .ok (.bool (((c.map absI).zip (c.map absI).tail).all fun q => decide (q.1 < q.2))) := allR (by simp; omega) fun q _ => by
    unfold g_is_clause_C3
    simp only [rb_ok, rb_exc, asB_b, asI_i, i_sub, i_add, i_neg, i_abs, i_gt, i_ge, i_lt, i_le, i_eq, i_ne, i_intB, bIf_t, bIf_f, nxR_ok, nxR_exc, asS_l, asS_t, len_l, len_t, tup_l, asT2_t, asOI_i, Bool.not_true, Bool.not_false]
  have hie : (dInts c).isEmpty = c.isEmpty := by cases c <;> rfl
  rw [hie]
  cases c.isEmpty with
  | true => rfl
  | false =>
    simp only [rb_ok, rb_exc, asB_b, asI_i, i_sub, i_add, i_neg, i_abs, i_gt, i_ge, i_lt, i_le, i_eq, i_ne, i_intB, bIf_t, bIf_f, nxR_ok, nxR_exc, asS_l, asS_t, len_l, len_t, tup_l, asT2_t, asOI_i, Bool.not_true, Bool.not_false, h1]
    cases hb : (c.all fun s => decide (-n ≤ s) && decide (s ≤ n) && !decide (s = 0)) with
    | false => simp only [rb_ok, rb_exc, asB_b, asI_i, i_sub, i_add, i_neg, i_abs, i_gt, i_ge, i_lt, i_le, i_eq, i_ne, i_intB, bIf_t, bIf_f, nxR_ok, nxR_exc, asS_l, asS_t, len_l, len_t, tup_l, asT2_t, asOI_i, Bool.not_true, Bool.not_false, Bool.false_and, Bool.true_and]
    | true =>
      simp only [rb_ok, rb_exc, asB_b, asI_i, i_sub, i_add, i_neg, i_abs, i_gt, i_ge, i_lt, i_le, i_eq, i_ne, i_intB, bIf_t, bIf_f, nxR_ok, nxR_exc, asS_l, asS_t, len_l, len_t, tup_l, asT2_t, asOI_i, Bool.not_true, Bool.not_false, h2, sl1_l, gZip_ll, Bool.true_and, tail_map, zipD_map]
      simp only [tail_map] at h3
      exact h3
/-! ### riddles -/
def isRid (n : Int) (cs : List (List Int)) : Bool := decide (0 ≤ n) && decide (n ≤ 5) && decide (cs.length ≤ 30) && cs.all (isCl n) && (cs.zip cs.tail).all fun q => HT.lexLt q.1 q.2
theorem isRid_iff {n : Nat} {cs : List (List Int)} : isRid n cs = true ↔ n ≤ 5 ∧ cs.length ≤ 30 ∧ Rid n cs := by
  unfold isRid Rid Rise
  rw [Bool.and_eq_true, Bool.and_eq_true, Bool.and_eq_true, Bool.and_eq_true, List.all_eq_true, chain_iff (p := fun a b => HT.lexLt a b) (fun a b c h1 h2 => lt_tr h1 h2)]
  simp only [decide_eq_true_eq, isCl_iff]
  constructor
  · rintro ⟨⟨⟨⟨_, a⟩, b⟩, c⟩, d⟩
    exact ⟨by omega, b, d, c⟩
  · rintro ⟨a, b, d, c⟩
    exact ⟨⟨⟨⟨by omega, by omega⟩, b⟩, c⟩, d⟩
theorem riddle_ok {n : Int} {cs : List (List Int)} (hl : ∀ c ∈ cs, c.length ≤ 1000) : g_is_riddle (.tuple [.int n, .tuple (dTups cs)]) = .ok (.bool (isRid n cs)) := by
  unfold g_is_riddle g_is_riddle_A1 isRid
  have hty : ∀ ds, isTy "tuple" (.tuple ds) = true := fun _ => rfl
  simp only [rb_ok, rb_exc, asB_b, asI_i, i_sub, i_add, i_neg, i_abs, i_gt, i_ge, i_lt, i_le, i_eq, i_ne, i_intB, bIf_t, bIf_f, nxR_ok, nxR_exc, asS_l, asS_t, len_l, len_t, tup_l, asT2_t, asOI_i, Bool.not_true, Bool.not_false, hty, dIx_t0, between_int, List.length_cons, List.length_nil]
  rw [show decide (((0 + 1 + 1 : Nat) : Int) = 2) = true from rfl]
  simp only [rb_ok, rb_exc, asB_b, asI_i, i_sub, i_add, i_neg, i_abs, i_gt, i_ge, i_lt, i_le, i_eq, i_ne, i_intB, bIf_t, bIf_f, nxR_ok, nxR_exc, asS_l, asS_t, len_l, len_t, tup_l, asT2_t, asOI_i, Bool.not_true, Bool.not_false]
  cases h0 : (decide (0 ≤ n) && decide (n ≤ 5)) with
  | false => simp only [rb_ok, rb_exc, asB_b, asI_i, i_sub, i_add, i_neg, i_abs, i_gt, i_ge, i_lt, i_le, i_eq, i_ne, i_intB, bIf_t, bIf_f, nxR_ok, nxR_exc, asS_l, asS_t, len_l, len_t, tup_l, asT2_t, asOI_i, Bool.not_true, Bool.not_false, Bool.false_and]
  | true =>
    simp only [rb_ok, rb_exc, asB_b, asI_i, i_sub, i_add, i_neg, i_abs, i_gt, i_ge, i_lt, i_le, i_eq, i_ne, i_intB, bIf_t, bIf_f, nxR_ok, nxR_exc, asS_l, asS_t, len_l, len_t, tup_l, asT2_t, asOI_i, Bool.not_true, Bool.not_false, Bool.true_and]
    unfold g_is_riddle_A2
    simp only [rb_ok, rb_exc, asB_b, asI_i, i_sub, i_add, i_neg, i_abs, i_gt, i_ge, i_lt, i_le, i_eq, i_ne, i_intB, bIf_t, bIf_f, nxR_ok, nxR_exc, asS_l, asS_t, len_l, len_t, tup_l, asT2_t, asOI_i, Bool.not_true, Bool.not_false, hty, List.length_map]
    by_cases h1 : cs.length ≤ 30
    · have h1' : ¬ ((30 : Int) < cs.length) := by omega
      simp only [rb_ok, rb_exc, asB_b, asI_i, i_sub, i_add, i_neg, i_abs, i_gt, i_ge, i_lt, i_le, i_eq, i_ne, i_intB, bIf_t, bIf_f, nxR_ok, nxR_exc, asS_l, asS_t, len_l, len_t, tup_l, asT2_t, asOI_i, Bool.not_true, Bool.not_false, h1, h1', decide_true, decide_false, Bool.true_and]
      rw [allRk (p := isCl n) (by omega) fun c m => by
        unfold g_is_riddle_C1
        rw [clause_ok (hl c m), rb_ok]]
      cases hb : cs.all (isCl n) with
      | false => simp only [rb_ok, rb_exc, asB_b, asI_i, i_sub, i_add, i_neg, i_abs, i_gt, i_ge, i_lt, i_le, i_eq, i_ne, i_intB, bIf_t, bIf_f, nxR_ok, nxR_exc, asS_l, asS_t, len_l, len_t, tup_l, asT2_t, asOI_i, Bool.not_true, Bool.not_false, Bool.false_and]
      | true =>
        simp only [rb_ok, rb_exc, asB_b, asI_i, i_sub, i_add, i_neg, i_abs, i_gt, i_ge, i_lt, i_le, i_eq, i_ne, i_intB, bIf_t, bIf_f, nxR_ok, nxR_exc, asS_l, asS_t, len_l, len_t, tup_l, asT2_t, asOI_i, Bool.not_true, Bool.not_false, sl1_t, gZip_tt, tail_map, zipD_map, Bool.true_and]
        exact allR (by simp; omega) fun q _ => by
          unfold g_is_riddle_C2
          simp only [rb_ok, rb_exc, asB_b, asI_i, i_sub, i_add, i_neg, i_abs, i_gt, i_ge, i_lt, i_le, i_eq, i_ne, i_intB, bIf_t, bIf_f, nxR_ok, nxR_exc, asS_l, asS_t, len_l, len_t, tup_l, asT2_t, asOI_i, Bool.not_true, Bool.not_false, lt_dtup]
    · have h1' : (30 : Int) < cs.length := by omega
      simp only [rb_ok, rb_exc, asB_b, asI_i, i_sub, i_add, i_neg, i_abs, i_gt, i_ge, i_lt, i_le, i_eq, i_ne, i_intB, bIf_t, bIf_f, nxR_ok, nxR_exc, asS_l, asS_t, len_l, len_t, tup_l, asT2_t, asOI_i, Bool.not_true, Bool.not_false, h1, h1', decide_true, decide_false, Bool.false_and]
theorem riddle_true {n : Nat} {cs : List (List Int)} (hn : n ≤ 5) (hl : cs.length ≤ 30) (h : Rid n cs) : g_is_riddle (dRid n cs) = .ok (.bool true) := by
  rw [riddle_ok fun c m => by have := (h.2 c m).len; omega, isRid_iff.mpr ⟨hn, hl, h⟩]
/-! ### answers -/
section
variable {n : Nat} {a c t : List Int} {s : Int} {cs : List (List Int)}
theorem getD_at {i : Int} (h0 : 1 ≤ i.natAbs) (h1 : i.natAbs ≤ a.length) : dIx (dTup a) (.int ((i.natAbs : Int) - 1)) = .ok (.int (a.getD (i.natAbs - 1) 0)) := by
  rw [dIx_ints (by omega) (by omega)]
  congr 3; omega
theorem isso_ok (ha : a.length = n) (hs : Sg n s) : g_is_so (.int s) (dTup a) = .ok (.bool (so a s)) := by
  unfold g_is_so so
  have e : (if s < 0 then -s else s) = (s.natAbs : Int) := absI_nat s
  simp only [rb_ok, rb_exc, asB_b, asI_i, i_sub, i_add, i_neg, i_abs, i_gt, i_ge, i_lt, i_le, i_eq, i_ne, i_intB, bIf_t, bIf_f, nxR_ok, nxR_exc, asS_l, asS_t, len_l, len_t, tup_l, asT2_t, asOI_i, Bool.not_true, Bool.not_false, e, getD_at hs.1 (by rw [ha]; exact hs.2)]
  by_cases p : 0 < s <;> simp [p]
theorem keepsC_ok (ha : a.length = n) (hc : ∀ s ∈ c, Sg n s) (hl : c.length ≤ 1000) : g_keeps_clause (dTup a) (dTup c) = .ok (.bool (keepsC a c)) := by
  unfold g_keeps_clause keepsC
  simp only [rb_ok, rb_exc, asB_b, asI_i, i_sub, i_add, i_neg, i_abs, i_gt, i_ge, i_lt, i_le, i_eq, i_ne, i_intB, bIf_t, bIf_f, nxR_ok, nxR_exc, asS_l, asS_t, len_l, len_t, tup_l, asT2_t, asOI_i, Bool.not_true, Bool.not_false]
  exact anyR (by omega) fun s m => by
    unfold g_keeps_clause_C1
    rw [isso_ok ha (hc s m), rb_ok]
def isAns (n : Int) (a : List Int) : Bool := decide ((a.length : Int) = n) && a.all fun b => decide (0 ≤ b) && decide (b ≤ 1)
theorem isAns_iff : isAns n a = true ↔ Bits n a := by
  unfold isAns Bits
  rw [Bool.and_eq_true, List.all_eq_true, decide_eq_true_eq]
  refine and_congr (by omega) (forall_congr' fun b => imp_congr_right fun _ => ?_)
  rw [Bool.and_eq_true, decide_eq_true_eq, decide_eq_true_eq]; omega
theorem isans_ok {n : Int} (hl : a.length ≤ 1000) : g_is_answer (.int n) (dTup a) = .ok (.bool (isAns n a)) := by
  unfold g_is_answer g_is_answer_A1 isAns
  have hty : isTy "tuple" (dTup a) = true := rfl
  simp only [rb_ok, rb_exc, asB_b, asI_i, i_sub, i_add, i_neg, i_abs, i_gt, i_ge, i_lt, i_le, i_eq, i_ne, i_intB, bIf_t, bIf_f, nxR_ok, nxR_exc, asS_l, asS_t, len_l, len_t, tup_l, asT2_t, asOI_i, Bool.not_true, Bool.not_false, hty, List.length_map]
  cases h : decide ((a.length : Int) = n) with
  | false => simp only [rb_ok, rb_exc, asB_b, asI_i, i_sub, i_add, i_neg, i_abs, i_gt, i_ge, i_lt, i_le, i_eq, i_ne, i_intB, bIf_t, bIf_f, nxR_ok, nxR_exc, asS_l, asS_t, len_l, len_t, tup_l, asT2_t, asOI_i, Bool.not_true, Bool.not_false, Bool.false_and]
  | true =>
    simp only [rb_ok, rb_exc, asB_b, asI_i, i_sub, i_add, i_neg, i_abs, i_gt, i_ge, i_lt, i_le, i_eq, i_ne, i_intB, bIf_t, bIf_f, nxR_ok, nxR_exc, asS_l, asS_t, len_l, len_t, tup_l, asT2_t, asOI_i, Bool.not_true, Bool.not_false, Bool.true_and]
    rw [allRk (p := fun b => decide (0 ≤ b) && decide (b ≤ 1)) (by omega) fun b _ => by
      unfold g_is_answer_C1
      rw [between_int, rb_ok]]
theorem keeps_ok (ha : Bits n a) (hn : n ≤ 1000) (h : Rid n cs) (hl : cs.length ≤ 30) : g_keeps (dRid n cs) (dTup a) = .ok (.bool (keepsR cs a)) := by
  unfold g_keeps keepsR
  simp only [rb_ok, rb_exc, asB_b, asI_i, i_sub, i_add, i_neg, i_abs, i_gt, i_ge, i_lt, i_le, i_eq, i_ne, i_intB, bIf_t, bIf_f, nxR_ok, nxR_exc, asS_l, asS_t, len_l, len_t, tup_l, asT2_t, asOI_i, Bool.not_true, Bool.not_false, dIx_t0, dIx_t1]
  rw [isans_ok (by rw [ha.1]; exact hn), isAns_iff.mpr ha]
  simp only [rb_ok, rb_exc, asB_b, asI_i, i_sub, i_add, i_neg, i_abs, i_gt, i_ge, i_lt, i_le, i_eq, i_ne, i_intB, bIf_t, bIf_f, nxR_ok, nxR_exc, asS_l, asS_t, len_l, len_t, tup_l, asT2_t, asOI_i, Bool.not_true, Bool.not_false]
  exact allR (by omega) fun c m => by
    unfold g_keeps_C1
    rw [keepsC_ok ha.1 (h.2 c m).2.2 (by have := (h.2 c m).len; omega), rb_ok]
theorem allA_ok (hn : n ≤ 5) : g_all_answers (.int n) = .ok (.list (dTups (allA n))) := by
  unfold g_all_answers
  simp only [rb_ok, rb_exc, asB_b, asI_i, i_sub, i_add, i_neg, i_abs, i_gt, i_ge, i_lt, i_le, i_eq, i_ne, i_intB, bIf_t, bIf_f, nxR_ok, nxR_exc, asS_l, asS_t, len_l, len_t, tup_l, asT2_t, asOI_i, Bool.not_true, Bool.not_false, gRg_nat (show n < 2 ^ 62 by omega)]
  have step : ∀ (xs : List (List Int)) (acc : List (List Int)), acc.length + 2 * xs.length ≤ 1000 → (∀ a ∈ xs, a.length ≤ 1000) → foldR g_all_answers_L1 (dTups xs) (dTups acc) = .ok (dTups (acc ++ xs.flatMap fun b => [b ++ [0], b ++ [1]])) := by
    intro xs
    induction xs with
    | nil => intro acc _ _; simp [foldR]
    | cons b xs ih =>
      intro acc hl ha
      simp only [List.length_cons] at hl
      have hb := ha b List.mem_cons_self
      show ((g_all_answers_L1 (dTup b) (dTups acc)).bind fun s' => foldR g_all_answers_L1 (dTups xs) s') = _
      have e1 : ∀ z : Int, dAddL (dTup b) (.tuple [.int z]) = .ok (dTup (b ++ [z])) := fun z => by
        rw [addT_ok (by simp; omega)]
        unfold dTup dInts; rw [List.map_append]; rfl
      have e2 : lcR (g_all_answers_C1 (dTup b)) [.int 0, .int 1] = .ok (dTups [b ++ [0], b ++ [1]]) := lcR_map (emb := PyData.int) (emb' := dTup) (xs := [0, 1]) (g := fun z => b ++ [z]) (by simp) fun z _ => by
        unfold g_all_answers_C1
        rw [e1, rb_ok]
      have e3 : g_all_answers_L1 (dTup b) (dTups acc) = .ok (dTups (acc ++ [b ++ [0], b ++ [1]])) := by
        unfold g_all_answers_L1
        rw [e2, rb_ok, extR_ok (by simp; omega), ← List.map_append]
      rw [e3, rb_ok, ih _ (by simp; omega) fun a m => ha a (List.mem_cons_of_mem _ m)]
      simp
  have key : ∀ k : Nat, k ≤ 5 → ∀ (ds : List D), ds.length = k → ∀ m : Nat, m + k ≤ 5 → foldR g_all_answers_L2 ds (.list (dTups (allA m))) = .ok (.list (dTups (allA (m + k)))) := by
    intro k
    induction k with
    | zero =>
      intro _ ds hd m _
      rw [List.length_eq_zero_iff.mp hd]; rfl
    | succ k ih =>
      intro hk ds hd m hm
      cases ds with
      | nil => cases hd
      | cons d ds =>
        show ((g_all_answers_L2 d (.list (dTups (allA m)))).bind fun s' => foldR g_all_answers_L2 ds s') = _
        unfold g_all_answers_L2
        have hml : (allA m).length ≤ 32 := by
          rw [allA_len]
          have : m ≤ 5 := by omega
          exact Nat.le_trans (Nat.pow_le_pow_right (by decide) this) (by decide)
        simp only [rb_ok, rb_exc, asB_b, asI_i, i_sub, i_add, i_neg, i_abs, i_gt, i_ge, i_lt, i_le, i_eq, i_ne, i_intB, bIf_t, bIf_f, nxR_ok, nxR_exc, asS_l, asS_t, len_l, len_t, tup_l, asT2_t, asOI_i, Bool.not_true, Bool.not_false]
        rw [show ([] : List D) = dTups [] from rfl, step _ _ (by simp; omega) fun a ma => by have := (mem_allA.mp ma).1; omega]
        simp only [rb_ok, rb_exc, asB_b, asI_i, i_sub, i_add, i_neg, i_abs, i_gt, i_ge, i_lt, i_le, i_eq, i_ne, i_intB, bIf_t, bIf_f, nxR_ok, nxR_exc, asS_l, asS_t, len_l, len_t, tup_l, asT2_t, asOI_i, Bool.not_true, Bool.not_false, List.nil_append]
        have := ih (by omega) ds (by simpa using hd) (m + 1) (by omega)
        rw [show m + 1 + k = m + (k + 1) by omega] at this
        exact this
  have := key n hn ((List.range n).map fun k : Nat => .int k) (by simp) 0 (by omega)
  rw [Nat.zero_add] at this
  exact this
theorem answers_ok (hn : n ≤ 5) (h : Rid n cs) (hl : cs.length ≤ 30) : g_answers_w2 (dRid n cs) = .ok (.list (dTups (ansL n cs))) := by
  unfold g_answers_w2
  have hml : (allA n).length ≤ 32 := by
    rw [allA_len]
    exact Nat.le_trans (Nat.pow_le_pow_right (by decide) hn) (by decide)
  simp only [rb_ok, rb_exc, asB_b, asI_i, i_sub, i_add, i_neg, i_abs, i_gt, i_ge, i_lt, i_le, i_eq, i_ne, i_intB, bIf_t, bIf_f, nxR_ok, nxR_exc, asS_l, asS_t, len_l, len_t, tup_l, asT2_t, asOI_i, Bool.not_true, Bool.not_false, dIx_t0, allA_ok hn]
  rw [lcTR_map (emb := dTup) (emb' := dTup) (f := g_answers_w2_C1) (p := keepsR cs) (g := id) (by omega) (fun a m => by
    unfold g_answers_w2_C1t
    rw [keeps_ok (mem_allA.mp m) (by omega) h hl]
    simp only [rb_ok, rb_exc, asB_b, asI_i, i_sub, i_add, i_neg, i_abs, i_gt, i_ge, i_lt, i_le, i_eq, i_ne, i_intB, bIf_t, bIf_f, nxR_ok, nxR_exc, asS_l, asS_t, len_l, len_t, tup_l, asT2_t, asOI_i, Bool.not_true, Bool.not_false]) fun a _ _ => rfl]
  rw [List.map_id]; rfl
end
end LW

set_option Elab.async false
set_option linter.all false
set_option maxRecDepth 100000
set_option maxHeartbeats 4000000
namespace LW
open PySem PySem.Spec PyProof.Rows L2 VS
section
variable {n : Nat} {a b c t : List Int} {s : Int} {cs : List (List Int)}
/-! ### turnings -/
theorem stillL_ok (h : n ≤ 1000) : gRgL (1, (n : Int) + 1) = .ok (dInts (stillL n)) := by
  rw [show (n : Int) + 1 = 1 + n by omega, gRgL_nat h (by omega), range_ints]
theorem stillT_ok (h : n ≤ 1000) : gRgT (1, (n : Int) + 1) = .ok (dTup (stillL n)) := by
  rw [show (n : Int) + 1 = 1 + n by omega, gRgT_nat h (by omega), range_ints]
theorem gSorted_ints (ts : List Int) : gSorted2 (.list (dInts ts)) = .ok (dInts (sortI ts)) := by
  show (match intsOf (dInts ts) with
    | some ns => Res.ok ((sortI ns).map PyData.int)
    | none => _) = _
  rw [intsOf_map]
theorem eq_lists (a b : List Int) : dEq (.list (dInts a)) (.list (dInts b)) = .ok (.bool (decide (a = b))) := by
  unfold dEq
  rw [if_pos (by rw [PySem.W.shaped_ints, PySem.W.shaped_ints]; rfl)]
  show Res.ok (PyData.bool (PyData.eqvAll (dInts a) (dInts b))) = _
  rw [eqv_ints]
def isT (n : Nat) (t : List Int) : Bool := decide (t.length = n) && decide (sortI (t.map absI) = stillL n)
theorem still_pair (n : Nat) : (stillL n).Pairwise (· ≤ ·) := by
  unfold stillL
  rw [List.pairwise_map]
  exact List.pairwise_lt_range.imp fun h => by omega
theorem isT_iff : isT n t = true ↔ IsT n t := by
  unfold isT
  rw [Bool.and_eq_true, decide_eq_true_eq, decide_eq_true_eq]
  have e0 : stillL n = (List.range' 1 n).map fun k : Nat => (k : Int) := by
    unfold stillL
    rw [List.range'_eq_map_range, List.map_map]
    exact List.map_congr_left fun k _ => by show 1 + (k : Int) = ((1 + k : Nat) : Int); omega
  have e1 : t.map absI = (t.map Int.natAbs).map fun k : Nat => (k : Int) := by
    rw [List.map_map]; exact List.map_congr_left fun s _ => absI_nat s
  constructor
  · rintro ⟨_, h⟩
    have p : (t.map absI).Perm (stillL n) := by rw [← h]; exact (sortI_perm _).symm
    rw [e0, e1] at p
    have := p.map Int.toNat
    have e2 : ∀ l : List Nat, (l.map fun k : Nat => (k : Int)).map Int.toNat = l := fun l => by
      rw [List.map_map]
      conv => rhs; rw [← List.map_id l]
      exact List.map_congr_left fun k _ => by show ((k : Int)).toNat = k; omega
    rw [e2, e2] at this
    exact this
  · intro h
    refine ⟨h.len, sorted_unique ((sortI_perm _).trans ?_) (sortI_sorted _) (still_pair n)⟩
    rw [e0, e1]
    exact h.map _
theorem isturning_ok (hl : t.length ≤ 1000) (hn : n ≤ 1000) : g_is_turning (.int n) (dTup t) = .ok (.bool (isT n t)) := by
  unfold g_is_turning g_is_turning_A1 isT
  have hty : isTy "tuple" (dTup t) = true := rfl
  simp only [rb_ok, rb_exc, asB_b, asI_i, i_sub, i_add, i_neg, i_abs, i_gt, i_ge, i_lt, i_le, i_eq, i_ne, i_intB, bIf_t, bIf_f, nxR_ok, nxR_exc, asS_l, asS_t, len_l, len_t, tup_l, asT2_t, asOI_i, Bool.not_true, Bool.not_false, hty, List.length_map]
  by_cases h : t.length = n
  · have h' : (t.length : Int) = n := by omega
    simp only [rb_ok, rb_exc, asB_b, asI_i, i_sub, i_add, i_neg, i_abs, i_gt, i_ge, i_lt, i_le, i_eq, i_ne, i_intB, bIf_t, bIf_f, nxR_ok, nxR_exc, asS_l, asS_t, len_l, len_t, tup_l, asT2_t, asOI_i, Bool.not_true, Bool.not_false, h', h, decide_true, Bool.true_and]
    rw [allRk (p := fun _ => true) (by omega) fun s _ => by
      unfold g_is_turning_C1
      rw [whole_ok, rb_ok]; rfl]
    have e : (t.all fun _ => true) = true := by simp
    simp only [rb_ok, rb_exc, asB_b, asI_i, i_sub, i_add, i_neg, i_abs, i_gt, i_ge, i_lt, i_le, i_eq, i_ne, i_intB, bIf_t, bIf_f, nxR_ok, nxR_exc, asS_l, asS_t, len_l, len_t, tup_l, asT2_t, asOI_i, Bool.not_true, Bool.not_false, e]
    rw [lcR_map (f := g_is_turning_C2) (emb := PyData.int) (emb' := PyData.int) (g := absI) (by omega) fun s _ => rfl]
    simp only [rb_ok, rb_exc, asB_b, asI_i, i_sub, i_add, i_neg, i_abs, i_gt, i_ge, i_lt, i_le, i_eq, i_ne, i_intB, bIf_t, bIf_f, nxR_ok, nxR_exc, asS_l, asS_t, len_l, len_t, tup_l, asT2_t, asOI_i, Bool.not_true, Bool.not_false]
    rw [gSorted_ints]
    simp only [rb_ok, rb_exc, asB_b, asI_i, i_sub, i_add, i_neg, i_abs, i_gt, i_ge, i_lt, i_le, i_eq, i_ne, i_intB, bIf_t, bIf_f, nxR_ok, nxR_exc, asS_l, asS_t, len_l, len_t, tup_l, asT2_t, asOI_i, Bool.not_true, Bool.not_false, stillL_ok hn]
    rw [eq_lists]
  · have h' : ¬ (t.length : Int) = n := by omega
    simp only [rb_ok, rb_exc, asB_b, asI_i, i_sub, i_add, i_neg, i_abs, i_gt, i_ge, i_lt, i_le, i_eq, i_ne, i_intB, bIf_t, bIf_f, nxR_ok, nxR_exc, asS_l, asS_t, len_l, len_t, tup_l, asT2_t, asOI_i, Bool.not_true, Bool.not_false, h', h, decide_false, Bool.false_and]
theorem need_ok (ht : IsT n t) (hn : n ≤ 1000) : g_need_turning (.int n) (dTup t) = .ok .none := by
  unfold g_need_turning
  rw [isturning_ok (by rw [ht.len]; exact hn) hn, isT_iff.mpr ht]
  simp only [rb_ok, rb_exc, asB_b, asI_i, i_sub, i_add, i_neg, i_abs, i_gt, i_ge, i_lt, i_le, i_eq, i_ne, i_intB, bIf_t, bIf_f, nxR_ok, nxR_exc, asS_l, asS_t, len_l, len_t, tup_l, asT2_t, asOI_i, Bool.not_true, Bool.not_false]
theorem ledsign_ok (hl : t.length = n) (hs : Sg n s) : g_led_sign (dTup t) (.int s) = .ok (.int (led t s)) := by
  unfold g_led_sign led
  unfold Sg at hs
  by_cases h : 0 < s
  · simp only [rb_ok, rb_exc, asB_b, asI_i, i_sub, i_add, i_neg, i_abs, i_gt, i_ge, i_lt, i_le, i_eq, i_ne, i_intB, bIf_t, bIf_f, nxR_ok, nxR_exc, asS_l, asS_t, len_l, len_t, tup_l, asT2_t, asOI_i, Bool.not_true, Bool.not_false, h, decide_true, if_true, dIx_ints (t := t) (i := s - 1) (by omega) (by omega)]
  · simp only [rb_ok, rb_exc, asB_b, asI_i, i_sub, i_add, i_neg, i_abs, i_gt, i_ge, i_lt, i_le, i_eq, i_ne, i_intB, bIf_t, bIf_f, nxR_ok, nxR_exc, asS_l, asS_t, len_l, len_t, tup_l, asT2_t, asOI_i, Bool.not_true, Bool.not_false, h, decide_false, if_false, dIx_ints (t := t) (i := 0 - s - 1) (by omega) (by omega)]
theorem sortAbs_ok {l : List Int} (nd : (l.map Int.natAbs).Nodup) : gSortAbs (.list (dInts l)) = .ok (dInts (sortA l)) := by
  have e : intsOf (dInts l) = some l := intsOf_map l
  simp only [gSortAbs, e, if_pos nd]
theorem ledclause_ok (hc : Cl n c) (ht : IsT n t) (hn : n ≤ 1000) : g_led_clause (dTup c) (dTup t) = .ok (dTup (ledC t c)) := by
  unfold g_led_clause ledC
  simp only [rb_ok, rb_exc, asB_b, asI_i, i_sub, i_add, i_neg, i_abs, i_gt, i_ge, i_lt, i_le, i_eq, i_ne, i_intB, bIf_t, bIf_f, nxR_ok, nxR_exc, asS_l, asS_t, len_l, len_t, tup_l, asT2_t, asOI_i, Bool.not_true, Bool.not_false]
  rw [lcR_map (f := g_led_clause_C1 (dTup t)) (emb := PyData.int) (emb' := PyData.int) (g := led t) (by have := hc.len; omega) fun s m => by
    unfold g_led_clause_C1
    rw [ledsign_ok ht.len (hc.2.2 s m), rb_ok]]
  simp only [rb_ok, rb_exc, asB_b, asI_i, i_sub, i_add, i_neg, i_abs, i_gt, i_ge, i_lt, i_le, i_eq, i_ne, i_intB, bIf_t, bIf_f, nxR_ok, nxR_exc, asS_l, asS_t, len_l, len_t, tup_l, asT2_t, asOI_i, Bool.not_true, Bool.not_false]
  rw [sortAbs_ok (led_nd ht hc.2.2 hc.nd)]
  simp only [rb_ok, rb_exc, asB_b, asI_i, i_sub, i_add, i_neg, i_abs, i_gt, i_ge, i_lt, i_le, i_eq, i_ne, i_intB, bIf_t, bIf_f, nxR_ok, nxR_exc, asS_l, asS_t, len_l, len_t, tup_l, asT2_t, asOI_i, Bool.not_true, Bool.not_false]
theorem gSorted_tups {ts : List (List Int)} (h : okT ts = true) : gSorted2 (.list (dTups ts)) = .ok (dTups (sortT ts)) := by
  cases ts with
  | nil =>
    show Res.ok ((sortI []).map PyData.int) = _
    simp [sortI, sortT]
  | cons t ts =>
    have e0 : intsOf (dTups (t :: ts)) = none := rfl
    have e1 : tupsOf (dTups (t :: ts)) = some (t :: ts) := tupsOf_map _
    simp only [gSorted2, e0, e1, if_pos h]
    rfl
theorem okT_ne {ts : List (List Int)} (h : ∀ t ∈ ts, t ≠ []) : okT ts = true := okT_iff.mpr (.inr h)
theorem Cl.ne (h : Cl n c) : c ≠ [] := h.1
theorem ledriddle_ok (h : Rid n cs) (ht : IsT n t) (hn : n ≤ 1000) (hl : cs.length ≤ 30) : g_led_riddle (dRid n cs) (dTup t) = .ok (dRid n (ledR t cs)) := by
  unfold g_led_riddle ledR
  simp only [rb_ok, rb_exc, asB_b, asI_i, i_sub, i_add, i_neg, i_abs, i_gt, i_ge, i_lt, i_le, i_eq, i_ne, i_intB, bIf_t, bIf_f, nxR_ok, nxR_exc, asS_l, asS_t, len_l, len_t, tup_l, asT2_t, asOI_i, Bool.not_true, Bool.not_false, dIx_t0, dIx_t1]
  rw [lcR_map (f := g_led_riddle_C1 (dTup t)) (emb := dTup) (emb' := dTup) (g := ledC t) (by omega) fun c m => by
    unfold g_led_riddle_C1
    rw [ledclause_ok (h.2 c m) ht hn, rb_ok]]
  simp only [rb_ok, rb_exc, asB_b, asI_i, i_sub, i_add, i_neg, i_abs, i_gt, i_ge, i_lt, i_le, i_eq, i_ne, i_intB, bIf_t, bIf_f, nxR_ok, nxR_exc, asS_l, asS_t, len_l, len_t, tup_l, asT2_t, asOI_i, Bool.not_true, Bool.not_false]
  rw [gSorted_tups (okT_ne fun c m => by
    obtain ⟨x, mx, rfl⟩ := List.mem_map.mp m
    exact (ledC_Cl (h.2 x mx) ht).1)]
  simp only [rb_ok, rb_exc, asB_b, asI_i, i_sub, i_add, i_neg, i_abs, i_gt, i_ge, i_lt, i_le, i_eq, i_ne, i_intB, bIf_t, bIf_f, nxR_ok, nxR_exc, asS_l, asS_t, len_l, len_t, tup_l, asT2_t, asOI_i, Bool.not_true, Bool.not_false]
theorem led_ok (h : Rid n cs) (ht : IsT n t) (hn : n ≤ 1000) (hl : cs.length ≤ 30) : g_led (dRid n cs) (dTup t) = .ok (dRid n (ledR t cs)) := by
  unfold g_led
  simp only [rb_ok, rb_exc, asB_b, asI_i, i_sub, i_add, i_neg, i_abs, i_gt, i_ge, i_lt, i_le, i_eq, i_ne, i_intB, bIf_t, bIf_f, nxR_ok, nxR_exc, asS_l, asS_t, len_l, len_t, tup_l, asT2_t, asOI_i, Bool.not_true, Bool.not_false, dIx_t0, need_ok ht hn]
  exact ledriddle_ok h ht hn hl
theorem gRep_ok {xs : List D} {k : Int} (h : -(2 ^ 63) ≤ k ∧ k < 2 ^ 63 ∧ xs.length * k.toNat ≤ sizeLine) : gRep (.list xs) (.int k) = .ok (List.replicate k.toNat xs).flatten := if_pos h
theorem rep_flat : ∀ n : Nat, (List.replicate n [PyData.int 0]).flatten = dInts (List.replicate n 0)
  | 0 => rfl
  | n + 1 => by
    rw [List.replicate_succ, List.flatten_cons, rep_flat n, List.replicate_succ]; rfl
theorem rep0 (n : Nat) : gRep (.list [.int 0]) (.int n) = .ok (dInts (List.replicate n 0)) ∨ 16777216 < n := by
  by_cases h : n ≤ 16777216
  · left
    have hz : 1 * (n : Int).toNat ≤ sizeLine := le_size (by omega)
    have e : gRep (.list [.int 0]) (.int n) = .ok (List.replicate (n : Int).toNat [PyData.int 0]).flatten := gRep_ok ⟨by omega, by omega, hz⟩
    rw [e, show ((n : Int)).toNat = n by omega, rep_flat]
  · exact .inr (by omega)
/-- values written to places, as the program does it -/
theorem scat_fold {α : Type} {emb : α → D} {f : D → List D → Res (List D)} {g : α → Nat × Int} : ∀ {xs : List α} {l : List Int}, (∀ x ∈ xs, (g x).1 < l.length) → (∀ x ∈ xs, ∀ l' : List Int, l'.length = l.length → f (emb x) (dInts l') = setR (dInts l') (.int (g x).1) (.int (g x).2)) → foldR f (xs.map emb) (dInts l) = .ok (dInts (scat (xs.map g) l))
  | [], _, _, _ => rfl
  | x :: xs, l, h, hf => by
    show ((f (emb x) (dInts l)).bind fun s' => foldR f (xs.map emb) s') = _
    have hx := h x List.mem_cons_self
    rw [hf x List.mem_cons_self l rfl, setR_ok (by rw [List.length_map]; exact hx), rb_ok]
    have e : (dInts l).set (g x).1 (.int (g x).2) = dInts (l.set (g x).1 (g x).2) := by
      unfold dInts; rw [List.map_set]
    rw [e, scat_fold (fun y m => by rw [List.length_set]; exact h y (List.mem_cons_of_mem _ m)) fun y m l' hl => hf y (List.mem_cons_of_mem _ m) l' (by rw [hl, List.length_set])]
    rfl
theorem abs_place (hs : Sg n s) : dSub (.int (if s < 0 then -s else s)) (.int 1) = .ok (.int ((s.natAbs - 1 : Nat) : Int)) := by
  rw [i_sub]
  congr 2
  unfold Sg at hs
  split <;> omega
theorem ledbits_ok (ha : Bits n a) (ht : IsT n t) (hn : n ≤ 1000) : g_led_bits (dTup a) (dTup t) = .ok (dTup (ledB t a)) := by
  unfold g_led_bits ledB
  have r0 := (rep0 a.length).resolve_right (by rw [ha.1]; omega)
  simp only [rb_ok, rb_exc, asB_b, asI_i, i_sub, i_add, i_neg, i_abs, i_gt, i_ge, i_lt, i_le, i_eq, i_ne, i_intB, bIf_t, bIf_f, nxR_ok, nxR_exc, asS_l, asS_t, len_l, len_t, tup_l, asT2_t, asOI_i, Bool.not_true, Bool.not_false, List.length_map, r0, gZip_tt, zipD_map]
  rw [scat_fold (f := g_led_bits_L1) (g := fun p : Int × Int => (p.2.natAbs - 1, if 0 < p.2 then p.1 else 1 - p.1)) (fun p m => by
    have := ht.sg (List.of_mem_zip m).2
    rw [List.length_replicate, ha.1]
    unfold Sg at this; show p.2.natAbs - 1 < n; omega) fun p m l hl => by
    have hs := ht.sg (List.of_mem_zip m).2
    unfold g_led_bits_L1 g_led_bits_A1
    by_cases q : 0 < p.2
    · simp only [rb_ok, rb_exc, asB_b, asI_i, i_sub, i_add, i_neg, i_abs, i_gt, i_ge, i_lt, i_le, i_eq, i_ne, i_intB, bIf_t, bIf_f, nxR_ok, nxR_exc, asS_l, asS_t, len_l, len_t, tup_l, asT2_t, asOI_i, Bool.not_true, Bool.not_false, q, decide_true, if_true, abs_place hs]
    · simp only [rb_ok, rb_exc, asB_b, asI_i, i_sub, i_add, i_neg, i_abs, i_gt, i_ge, i_lt, i_le, i_eq, i_ne, i_intB, bIf_t, bIf_f, nxR_ok, nxR_exc, asS_l, asS_t, len_l, len_t, tup_l, asT2_t, asOI_i, Bool.not_true, Bool.not_false, q, decide_false, if_false, abs_place hs]]
  simp only [rb_ok, rb_exc, asB_b, asI_i, i_sub, i_add, i_neg, i_abs, i_gt, i_ge, i_lt, i_le, i_eq, i_ne, i_intB, bIf_t, bIf_f, nxR_ok, nxR_exc, asS_l, asS_t, len_l, len_t, tup_l, asT2_t, asOI_i, Bool.not_true, Bool.not_false]
theorem ledans_ok (ha : Bits n a) (ht : IsT n t) (hn : n ≤ 1000) : g_led_answer (dTup a) (dTup t) = .ok (dTup (ledB t a)) := by
  unfold g_led_answer
  simp only [rb_ok, rb_exc, asB_b, asI_i, i_sub, i_add, i_neg, i_abs, i_gt, i_ge, i_lt, i_le, i_eq, i_ne, i_intB, bIf_t, bIf_f, nxR_ok, nxR_exc, asS_l, asS_t, len_l, len_t, tup_l, asT2_t, asOI_i, Bool.not_true, Bool.not_false, List.length_map, ha.1, need_ok ht hn]
  exact ledbits_ok ha ht hn
theorem behind_ok (ha : IsT n a) (hb : IsT n b) (hn : n ≤ 1000) : g_behind (dTup a) (dTup b) = .ok (dTup (comp a b)) := by
  unfold g_behind comp
  simp only [rb_ok, rb_exc, asB_b, asI_i, i_sub, i_add, i_neg, i_abs, i_gt, i_ge, i_lt, i_le, i_eq, i_ne, i_intB, bIf_t, bIf_f, nxR_ok, nxR_exc, asS_l, asS_t, len_l, len_t, tup_l, asT2_t, asOI_i, Bool.not_true, Bool.not_false]
  rw [lcR_map (f := g_behind_C1 (dTup b)) (emb := PyData.int) (emb' := PyData.int) (g := led b) (by rw [ha.len]; omega) fun s m => by
    unfold g_behind_C1
    rw [ledsign_ok hb.len (ha.sg m), rb_ok]]
  simp only [rb_ok, rb_exc, asB_b, asI_i, i_sub, i_add, i_neg, i_abs, i_gt, i_ge, i_lt, i_le, i_eq, i_ne, i_intB, bIf_t, bIf_f, nxR_ok, nxR_exc, asS_l, asS_t, len_l, len_t, tup_l, asT2_t, asOI_i, Bool.not_true, Bool.not_false]
theorem enumD_ints : ∀ (l : List Int) (k : Nat), enumD (k : Int) (dInts l) = (l.zipIdx k).map fun p => PyData.tuple [.int p.2, .int p.1]
  | [], _ => rfl
  | x :: l, k => by
    have := enumD_ints l (k + 1)
    show PyData.tuple [.int k, .int x] :: enumD ((k : Int) + 1) (dInts l) = _
    rw [show (k : Int) + 1 = ((k + 1 : Nat) : Int) by omega, this]; rfl
theorem back_ok (ht : IsT n t) (hn : n ≤ 1000) : g_back (dTup t) = .ok (dTup (bk t)) := by
  unfold g_back bk bkP
  have r0 := (rep0 t.length).resolve_right (by rw [ht.len]; omega)
  have e1 : gEnum 0 (dTup t) = .ok (t.zipIdx.map fun p => PyData.tuple [.int p.2, .int p.1]) := by
    have := enumD_ints t 0
    rw [← this]; rfl
  simp only [rb_ok, rb_exc, asB_b, asI_i, i_sub, i_add, i_neg, i_abs, i_gt, i_ge, i_lt, i_le, i_eq, i_ne, i_intB, bIf_t, bIf_f, nxR_ok, nxR_exc, asS_l, asS_t, len_l, len_t, tup_l, asT2_t, asOI_i, Bool.not_true, Bool.not_false, List.length_map, r0, e1]
  rw [scat_fold (f := g_back_L1) (g := fun p : Int × Nat => (p.1.natAbs - 1, if 0 < p.1 then (p.2 : Int) + 1 else 0 - (p.2 : Int) - 1)) (fun p m => by
    obtain ⟨z, k⟩ := p
    rw [List.mem_zipIdx_iff_getElem?] at m
    have := ht.sg (List.mem_of_getElem? m)
    rw [List.length_replicate, ht.len]
    unfold Sg at this; show z.natAbs - 1 < n; omega) fun p m l hl => by
    obtain ⟨z, k⟩ := p
    rw [List.mem_zipIdx_iff_getElem?] at m
    have hs := ht.sg (List.mem_of_getElem? m)
    unfold g_back_L1 g_back_A1
    by_cases q : 0 < z
    · simp only [rb_ok, rb_exc, asB_b, asI_i, i_sub, i_add, i_neg, i_abs, i_gt, i_ge, i_lt, i_le, i_eq, i_ne, i_intB, bIf_t, bIf_f, nxR_ok, nxR_exc, asS_l, asS_t, len_l, len_t, tup_l, asT2_t, asOI_i, Bool.not_true, Bool.not_false, q, decide_true, if_true, abs_place hs]
    · simp only [rb_ok, rb_exc, asB_b, asI_i, i_sub, i_add, i_neg, i_abs, i_gt, i_ge, i_lt, i_le, i_eq, i_ne, i_intB, bIf_t, bIf_f, nxR_ok, nxR_exc, asS_l, asS_t, len_l, len_t, tup_l, asT2_t, asOI_i, Bool.not_true, Bool.not_false, q, decide_false, if_false, abs_place hs]]
  simp only [rb_ok, rb_exc, asB_b, asI_i, i_sub, i_add, i_neg, i_abs, i_gt, i_ge, i_lt, i_le, i_eq, i_ne, i_intB, bIf_t, bIf_f, nxR_ok, nxR_exc, asS_l, asS_t, len_l, len_t, tup_l, asT2_t, asOI_i, Bool.not_true, Bool.not_false]
theorem still_ok (hn : n ≤ 1000) : g_still (.int n) = .ok (dTup (stillL n)) := by
  unfold g_still
  simp only [rb_ok, rb_exc, asB_b, asI_i, i_sub, i_add, i_neg, i_abs, i_gt, i_ge, i_lt, i_le, i_eq, i_ne, i_intB, bIf_t, bIf_f, nxR_ok, nxR_exc, asS_l, asS_t, len_l, len_t, tup_l, asT2_t, asOI_i, Bool.not_true, Bool.not_false, stillT_ok hn]
end
end LW

set_option Elab.async false
set_option linter.all false
set_option maxRecDepth 100000
set_option maxHeartbeats 4000000
namespace LW
open PySem PySem.Spec PyProof.Rows L2 VS
/-! ### how often till it is still -/
def pw (t : List Int) : Nat → List Int
  | 0 => t
  | k + 1 => comp (pw t k) t
def allT : Nat → List Int → List (List Int)
  | 0, _ => [[]]
  | k + 1, rest => (List.range rest.length).flatMap fun i => (allT k (rest.eraseIdx i)).flatMap fun r => [rest.getD i 0 :: r, -(rest.getD i 0) :: r]
theorem mem_allT : ∀ (k : Nat) (rest t : List Int), rest.length = k → (t.map Int.natAbs).Perm (rest.map Int.natAbs) → t ∈ allT k rest
  | 0, rest, t, hl, hp => by
    have : t = [] := by
      have := hp.length_eq
      rw [List.length_map, List.length_map, hl] at this
      exact List.length_eq_zero_iff.mp this
    subst this
    exact List.mem_singleton.mpr rfl
  | k + 1, rest, t, hl, hp => by
    cases t with
    | nil =>
      have := hp.length_eq
      rw [List.length_map, List.length_map, hl] at this
      cases this
    | cons x t =>
      have mx : x.natAbs ∈ rest.map Int.natAbs := hp.mem_iff.mp List.mem_cons_self
      obtain ⟨y, my, ey⟩ := List.mem_map.mp mx
      obtain ⟨i, hi, rfl⟩ := List.getElem_of_mem my
      have p2 : (t.map Int.natAbs).Perm ((rest.eraseIdx i).map Int.natAbs) := by
        have p3 := hp.trans ((erase_perm hi).map Int.natAbs).symm
        rw [List.map_cons, List.map_cons, ey] at p3
        exact List.Perm.cons_inv p3
      have ih := mem_allT k (rest.eraseIdx i) t (by rw [List.length_eraseIdx, if_pos hi]; omega) p2
      have eg : rest.getD i 0 = rest[i] := by simp [List.getD_eq_getElem?_getD, hi]
      refine List.mem_flatMap.mpr ⟨i, List.mem_range.mpr hi, List.mem_flatMap.mpr ⟨t, ih, ?_⟩⟩
      rw [eg]
      have : x = rest[i] ∨ x = -rest[i] := by omega
      rcases this with rfl | rfl <;> simp
def ordB (st t : List Int) : Nat → List Int → Bool
  | 0, _ => false
  | k + 1, here => decide (here = st) || ordB st t k (comp here t)
theorem ord0 : (allT 0 (stillL 0)).all (fun t => ordB (stillL 0) t 14 t) = true := by decide +kernel
theorem ord1 : (allT 1 (stillL 1)).all (fun t => ordB (stillL 1) t 14 t) = true := by decide +kernel
theorem ord2 : (allT 2 (stillL 2)).all (fun t => ordB (stillL 2) t 14 t) = true := by decide +kernel
theorem ord3 : (allT 3 (stillL 3)).all (fun t => ordB (stillL 3) t 14 t) = true := by decide +kernel
theorem ord4 : (allT 4 (stillL 4)).all (fun t => ordB (stillL 4) t 14 t) = true := by decide +kernel
theorem ord5 : (allT 5 (stillL 5)).all (fun t => ordB (stillL 5) t 14 t) = true := by decide +kernel
theorem ordB_pw {st t : List Int} : ∀ {k j : Nat}, ordB st t k (pw t j) = true → ∃ i, i < j + k ∧ pw t i = st
  | 0, j, h => nomatch h
  | k + 1, j, h => by
    unfold ordB at h
    rw [Bool.or_eq_true, decide_eq_true_eq] at h
    rcases h with h | h
    · exact ⟨j, by omega, h⟩
    · obtain ⟨i, hi, e⟩ := ordB_pw (k := k) (j := j + 1) h
      exact ⟨i, by omega, e⟩
theorem ord_ex {n : Nat} {t : List Int} (hn : n ≤ 5) (h : IsT n t) : ∃ i, i < 14 ∧ pw t i = stillL n := by
  have m : t ∈ allT n (stillL n) := mem_allT n _ _ (by simp) (h.trans (still_IsT (n := n)).symm)
  have key : ordB (stillL n) t 14 (pw t 0) = true := by
    have : n = 0 ∨ n = 1 ∨ n = 2 ∨ n = 3 ∨ n = 4 ∨ n = 5 := by omega
    rcases this with rfl | rfl | rfl | rfl | rfl | rfl
    · exact List.all_eq_true.mp ord0 t m
    · exact List.all_eq_true.mp ord1 t m
    · exact List.all_eq_true.mp ord2 t m
    · exact List.all_eq_true.mp ord3 t m
    · exact List.all_eq_true.mp ord4 t m
    · exact List.all_eq_true.mp ord5 t m
  obtain ⟨i, hi, e⟩ := ordB_pw key
  exact ⟨i, by omega, e⟩
theorem pw_IsT {n : Nat} {t : List Int} (h : IsT n t) : ∀ k, IsT n (pw t k)
  | 0 => h
  | k + 1 => comp_IsT (pw_IsT h k) h
theorem fuel_20 : 20 ≤ fuel := by unfold fuel; omega
theorem order_ok {n : Nat} {t : List Int} (hn : n ≤ 5) (h : IsT n t) : Sat (g_order_of (dTup t)) fun d => ∃ r : Nat, r < 14 ∧ d = .int (r + 1 : Nat) ∧ pw t r = stillL n ∧ ∀ i < r, pw t i ≠ stillL n := by
  obtain ⟨K, hK, eK⟩ := ord_ex hn h
  unfold g_order_of
  have key := whR_sat (t := g_order_of_W1t (dTup t)) (f := g_order_of_W1 (dTup t)) (I := fun s => ∃ j : Nat, s = (.int (j + 1 : Nat), dTup (pw t j)) ∧ j ≤ K ∧ ∀ i < j, pw t i ≠ stillL n) (μ := fun s => match s.1 with
    | .int c => K + 1 - c.toNat
    | _ => 0) (fun s ⟨j, es, hj, hi⟩ => by
    subst es
    unfold g_order_of_W1t
    simp only [rb_ok, rb_exc, asB_b, asI_i, i_sub, i_add, i_neg, i_abs, i_gt, i_ge, i_lt, i_le, i_eq, i_ne, i_intB, bIf_t, bIf_f, nxR_ok, nxR_exc, asS_l, asS_t, len_l, len_t, tup_l, asT2_t, asOI_i, Bool.not_true, Bool.not_false, List.length_map, h.len, still_ok (show n ≤ 1000 by omega), ne_tups]
    refine ⟨_, rfl, fun hc => ?_⟩
    have hne : pw t j ≠ stillL n := by simpa using hc
    have hjK : j < K := by
      refine Nat.lt_of_le_of_ne hj fun e => hne (by rw [e, eK])
    unfold g_order_of_W1
    rw [behind_ok (pw_IsT h j) h (by omega)]
    simp only [rb_ok, rb_exc, asB_b, asI_i, i_sub, i_add, i_neg, i_abs, i_gt, i_ge, i_lt, i_le, i_eq, i_ne, i_intB, bIf_t, bIf_f, nxR_ok, nxR_exc, asS_l, asS_t, len_l, len_t, tup_l, asT2_t, asOI_i, Bool.not_true, Bool.not_false]
    refine ⟨_, rfl, ⟨j + 1, ?_, hjK, fun i hi' => ?_⟩, ?_⟩
    · rw [show ((j + 1 : Nat) : Int) + 1 = ((j + 1 + 1 : Nat) : Int) by omega]; rfl
    · rcases Nat.lt_succ_iff_lt_or_eq.mp hi' with q | q
      · exact hi i q
      · subst q; exact hne
    · show K + 1 - (((j + 1 : Nat) : Int) + 1).toNat < K + 1 - ((j + 1 : Nat) : Int).toNat
      omega) (n := fuel) (s := (.int 1, dTup t)) ⟨0, rfl, Nat.zero_le _, fun i hi => absurd hi (Nat.not_lt_zero i)⟩ (by
    show K + 1 - (1 : Int).toNat < fuel
    have := fuel_20
    omega)
  refine key.bind fun s ⟨⟨j, es, hj, hi⟩, ht⟩ => ?_
  subst es
  unfold g_order_of_W1t at ht
  simp only [rb_ok, rb_exc, asB_b, asI_i, i_sub, i_add, i_neg, i_abs, i_gt, i_ge, i_lt, i_le, i_eq, i_ne, i_intB, bIf_t, bIf_f, nxR_ok, nxR_exc, asS_l, asS_t, len_l, len_t, tup_l, asT2_t, asOI_i, Bool.not_true, Bool.not_false, List.length_map, h.len, still_ok (show n ≤ 1000 by omega), ne_tups] at ht
  have e : pw t j = stillL n := by simpa using ht
  exact ⟨_, rfl, j, by omega, rfl, e, hi⟩
/-! ### the bits -/
theorem bits0 : g__law_bits (.int 0) = .ok (.list (dTups (allA 0))) := by rfl
theorem bits1 : g__law_bits (.int 1) = .ok (.list (dTups (allA 1))) := by rfl
theorem bits2 : g__law_bits (.int 2) = .ok (.list (dTups (allA 2))) := by rfl
theorem bits5 : g__law_bits (.int 5) = .ok (.list (dTups (allA 5))) := by rfl
end LW

set_option Elab.async false
set_option linter.all false
set_option maxRecDepth 100000
set_option maxHeartbeats 4000000
namespace LW
open PySem PySem.Spec PyProof.Rows L2 VS
/-! ### dicts whose keys are rows -/
def keyI (t : List Int) : List Key := t.map Sum.inl
def dtM (ps : List (List Int × D)) : DT := ps.map fun p => (keyI p.1, p.2)
abbrev dtS (ts : List (List Int)) : DT := dtM (ts.map fun t => (t, .bool true))
theorem keyI_inj {t u : List Int} : keyI t = keyI u ↔ t = u := by
  constructor
  · intro h
    have := congrArg (List.map (fun k : Key => match k with | .inl i => i | .inr _ => 0)) h
    unfold keyI at this
    rw [List.map_map, List.map_map] at this
    have e : ∀ l : List Int, l.map ((fun k : Key => match k with | .inl i => i | .inr _ => 0) ∘ Sum.inl) = l := fun l => by
      conv => rhs; rw [← List.map_id l]
      rfl
    rw [e, e] at this
    exact this
  · exact fun h => by rw [h]
theorem keysO_ints : ∀ t : List Int, keysO (dInts t) = some (keyI t)
  | [] => rfl
  | x :: t => by
    show keysO (.int x :: dInts t) = _
    simp only [keysO, keyO, keysO_ints t]
    rfl
theorem keyT_tup (t : List Int) : keyT (dTup t) = some (keyI t) := keysO_ints t
theorem getTR_ok (ps : List (List Int × D)) (t : List Int) : getTR (dtM ps) (dTup t) = .ok ((ps.find? fun p => decide (p.1 = t)).map (·.2)) := by
  unfold getTR
  rw [keyT_tup]
  show Res.ok (valD (dtM ps) (keyI t)) = _
  congr 1
  unfold valD dtM
  induction ps with
  | nil => rfl
  | cons p ps ih =>
    rw [List.map_cons, List.find?_cons, List.find?_cons]
    by_cases h : p.1 = t
    · simp [h]
    · have h' : ¬ keyI p.1 = keyI t := fun e => h (keyI_inj.mp e)
      simp only [h, h', decide_false]
      exact ih
theorem getTS_ok (ts : List (List Int)) (t : List Int) : getTR (dtS ts) (dTup t) = .ok (if t ∈ ts then some (.bool true) else none) := by
  rw [getTR_ok]
  congr 1
  induction ts with
  | nil => rfl
  | cons u ts ih =>
    rw [List.map_cons, List.find?_cons]
    by_cases h : u = t
    · simp [h]
    · simp only [h, decide_false, ih, List.mem_cons, show ¬ t = u from fun e => h e.symm, false_or]
theorem putTR_new {ps : List (List Int × D)} {t : List Int} {d : D} (h : ∀ p ∈ ps, p.1 ≠ t) (hl : ps.length < 16777216) : putTR (dtM ps) (dTup t) d = .ok (dtM (ps ++ [(t, d)])) := by
  unfold putTR
  rw [keyT_tup]
  have h0 : (dtM ps).length < sizeLine := by
    unfold dtM; rw [List.length_map, sizeLine_eq]; exact hl
  have h1 : ((dtM ps).any fun kv => decide (kv.1 = keyI t)) = false := by
    rw [List.any_eq_false]
    intro q mq
    obtain ⟨p, mp, rfl⟩ := List.mem_map.mp mq
    simpa using fun e => h p mp (keyI_inj.mp e)
  show (if (dtM ps).length < sizeLine then Res.ok (putD (dtM ps) (keyI t) d) else .bad) = _
  rw [if_pos h0]
  unfold putD
  rw [h1]
  unfold dtM
  rw [List.map_append]; rfl
theorem putTS_ok {ts : List (List Int)} {t : List Int} (hl : ts.length < 16777216) : putTR (dtS ts) (dTup t) (.bool true) = .ok (dtS (if t ∈ ts then ts else ts ++ [t])) := by
  by_cases h : t ∈ ts
  · rw [if_pos h]
    unfold putTR
    rw [keyT_tup]
    have h0 : (dtS ts).length < sizeLine := by
      unfold dtS dtM; rw [List.length_map, List.length_map, sizeLine_eq]; exact hl
    have h1 : ((dtS ts).any fun kv => decide (kv.1 = keyI t)) = true := by
      rw [List.any_eq_true]
      exact ⟨(keyI t, .bool true), List.mem_map.mpr ⟨(t, .bool true), List.mem_map.mpr ⟨t, h, rfl⟩, rfl⟩, by simp⟩
    show (if (dtS ts).length < sizeLine then Res.ok (putD (dtS ts) (keyI t) (.bool true)) else .bad) = _
    rw [if_pos h0]
    unfold putD
    rw [h1]
    congr 1
    rw [if_pos rfl]
    conv => rhs; rw [← List.map_id (dtS ts)]
    refine List.map_congr_left fun q mq => ?_
    obtain ⟨p, mp, rfl⟩ := List.mem_map.mp mq
    obtain ⟨u, mu, rfl⟩ := List.mem_map.mp mp
    split <;> rfl
  · rw [if_neg h, putTR_new (fun p mp => by
      obtain ⟨u, mu, rfl⟩ := List.mem_map.mp mp
      exact fun e => h (e ▸ mu)) (by rw [List.length_map]; exact hl)]
    unfold dtS
    rw [List.map_append]; rfl
theorem keyDT_key (t : List Int) : keyDT (keyI t) = dTup t := by
  unfold keyDT keyI dTup dInts
  rw [List.map_map]; rfl
theorem shortK_ok {ps : List (List Int × D)} (hl : ps.length ≤ 16777216) (h : ∀ p ∈ ps, p.1.length ≤ 1000) : shortK (dtM ps) = true := by
  unfold shortK dtM
  rw [Bool.and_eq_true, decide_eq_true_eq, List.all_eq_true]
  refine ⟨by rw [List.length_map]; exact le_size hl, fun q mq => ?_⟩
  obtain ⟨p, mp, rfl⟩ := List.mem_map.mp mq
  have := h p mp
  exact decide_eq_true (by show (keyI p.1).length ≤ _; unfold keyI; rw [List.length_map]; exact le_size (by omega))
theorem listDT_ok {ps : List (List Int × D)} (hl : ps.length ≤ 16777216) (h : ∀ p ∈ ps, p.1.length ≤ 1000) : listDT (dtM ps) = .ok (dTups (ps.map (·.1))) := by
  unfold listDT
  rw [if_pos (shortK_ok hl h)]
  unfold keysD dtM dTups
  rw [List.map_map, List.map_map]
  congr 1
  exact List.map_congr_left fun p _ => keyDT_key p.1
theorem intsK_key : ∀ t : List Int, intsK (keyI t) = some t
  | [] => rfl
  | x :: t => by
    show intsK (.inl x :: keyI t) = _
    simp only [intsK, intsK_key t]
theorem intsKs_keys : ∀ ts : List (List Int), intsKs (ts.map keyI) = some ts
  | [] => rfl
  | t :: ts => by
    simp only [List.map_cons, intsKs, intsK_key, intsKs_keys ts]
theorem sortTR_ok {ps : List (List Int × D)} (hl : ps.length ≤ 16777216) (h : ∀ p ∈ ps, p.1.length ≤ 1000) (ok : okT (ps.map (·.1)) = true) : sortTR (dtM ps) = .ok (dTups (sortT (ps.map (·.1)))) := by
  have e : (dtM ps).map (·.1) = (ps.map (·.1)).map keyI := by
    unfold dtM
    rw [List.map_map, List.map_map]; rfl
  unfold sortTR
  rw [e, intsKs_keys]
  show (if okT (ps.map (·.1)) = true ∧ shortK (dtM ps) = true then Res.ok ((sortT (ps.map (·.1))).map tupD) else .bad) = _
  rw [if_pos ⟨ok, shortK_ok hl h⟩]; rfl
theorem dtS_keys (ts : List (List Int)) : (ts.map fun t => (t, PyData.bool true)).map (·.1) = ts := by
  rw [List.map_map]
  conv => rhs; rw [← List.map_id ts]
  rfl
theorem listDS_ok {ts : List (List Int)} (hl : ts.length ≤ 16777216) (h : ∀ t ∈ ts, t.length ≤ 1000) : listDT (dtS ts) = .ok (dTups ts) := by
  rw [listDT_ok (by rw [List.length_map]; exact hl) fun p mp => by
    obtain ⟨t, mt, rfl⟩ := List.mem_map.mp mp
    exact h t mt, dtS_keys]
theorem sortTS_ok {ts : List (List Int)} (hl : ts.length ≤ 16777216) (h : ∀ t ∈ ts, t.length ≤ 1000) (ok : okT ts = true) : sortTR (dtS ts) = .ok (dTups (sortT ts)) := by
  rw [sortTR_ok (by rw [List.length_map]; exact hl) (fun p mp => by
    obtain ⟨t, mt, rfl⟩ := List.mem_map.mp mp
    exact h t mt) (by rw [dtS_keys]; exact ok), dtS_keys]
/-! ### clauses drawn -/
section
variable {n : Nat} {st : List D} {c t : List Int} {s : Int} {cs : List (List Int)}
theorem gRg1 (h : n ≤ 1000) : gRg (1, (n : Int) + 1) = .ok ((List.range' 1 n).map fun k : Nat => .int k) := by
  rw [gRg_ok (by omega), List.range'_eq_map_range, List.map_map, show ((n : Int) + 1 - 1).toNat = n by omega]
  congr 1
theorem clauseW2_sat (hs : StOk st) (h1 : 1 ≤ n) (hn : n ≤ 5) : Sat (g__law_clause_w2 st (.int n)) fun p => ∃ c, p.1 = dTup c ∧ Cl n c ∧ StOk p.2 := by
  unfold g__law_clause_w2
  refine Sat.nx ?_
  simp only [rb_ok, rb_exc, asB_b, asI_i, i_sub, i_add, i_neg, i_abs, i_gt, i_ge, i_lt, i_le, i_eq, i_ne, i_intB, bIf_t, bIf_f, nxR_ok, nxR_exc, asS_l, asS_t, len_l, len_t, tup_l, asT2_t, asT2_l, asOI_i, Bool.not_true, Bool.not_false, gRg1 (show n ≤ 1000 by omega)]
  have key : Sat (lcOR g__law_clause_w2_C1 ((List.range' 1 n).map fun k : Nat => .int k) st) fun p => (∃ c : List Int, p.1 = dInts c ∧ (c.map Int.natAbs).Sublist (List.range' 1 n)) ∧ StOk p.2 := by
    refine (lcOR_sat (I := StOk) (P := fun ds ys => ∀ ks : List Nat, ds = ks.map (fun k : Nat => .int k) → ∃ c : List Int, ys = dInts c ∧ (c.map Int.natAbs).Sublist ks) (by simp; omega) (fun ks e => ⟨[], rfl, List.nil_sublist _⟩) (fun d m s hs => ?_) hs).mono fun p h => ⟨h.1 _ rfl, h.2⟩
    obtain ⟨k, mk, rfl⟩ := List.mem_map.mp m
    unfold g__law_clause_w2_C1
    refine take_bind hs (by decide) (by decide) fun r st1 hr s1 => ?_
    have skip : ∀ ds ys : List D, (∀ ks : List Nat, ds = ks.map (fun k : Nat => .int k) → ∃ c : List Int, ys = dInts c ∧ (c.map Int.natAbs).Sublist ks) → ∀ ks : List Nat, PyData.int k :: ds = ks.map (fun k : Nat => .int k) → ∃ c : List Int, consO none ys = dInts c ∧ (c.map Int.natAbs).Sublist ks := by
      intro ds ys h ks e
      cases ks with
      | nil => cases e
      | cons q ks =>
        rw [List.map_cons] at e
        injection e with e1 e2
        obtain ⟨c, h1, h2⟩ := h ks e2
        exact ⟨c, h1, h2.trans (List.sublist_cons_self _ _)⟩
    by_cases hr0 : (r : Int) = 0
    · simp only [rb_ok, rb_exc, asB_b, asI_i, i_sub, i_add, i_neg, i_abs, i_gt, i_ge, i_lt, i_le, i_eq, i_ne, i_intB, bIf_t, bIf_f, nxR_ok, nxR_exc, asS_l, asS_t, len_l, len_t, tup_l, asT2_t, asT2_l, asOI_i, Bool.not_true, Bool.not_false, hr0, decide_true]
      refine take_bind s1 (by decide) (by decide) fun q st2 hq s2 => ?_
      obtain ⟨z, hz, ez⟩ := sign_at hq
      obtain ⟨y, ey, hy⟩ := mul_sign (x := (k : Int)) hz
      simp only [rb_ok, rb_exc, asB_b, asI_i, i_sub, i_add, i_neg, i_abs, i_gt, i_ge, i_lt, i_le, i_eq, i_ne, i_intB, bIf_t, bIf_f, nxR_ok, nxR_exc, asS_l, asS_t, len_l, len_t, tup_l, asT2_t, asT2_l, asOI_i, Bool.not_true, Bool.not_false, ez, ey]
      refine ⟨_, rfl, s2, fun ds ys h ks e => ?_⟩
      cases ks with
      | nil => cases e
      | cons w ks =>
        rw [List.map_cons] at e
        injection e with e1 e2
        injection e1 with e1
        obtain ⟨c, h1, h2⟩ := h ks e2
        refine ⟨y :: c, by rw [h1]; rfl, ?_⟩
        rw [List.map_cons, hy, show ((k : Int)).natAbs = w by omega]
        exact h2.cons_cons w
    · simp only [rb_ok, rb_exc, asB_b, asI_i, i_sub, i_add, i_neg, i_abs, i_gt, i_ge, i_lt, i_le, i_eq, i_ne, i_intB, bIf_t, bIf_f, nxR_ok, nxR_exc, asS_l, asS_t, len_l, len_t, tup_l, asT2_t, asT2_l, asOI_i, Bool.not_true, Bool.not_false, hr0, decide_false]
      exact ⟨_, rfl, s1, skip⟩
  refine key.bind fun p ⟨⟨c, ec, hc⟩, s1⟩ => ?_
  rw [ec]
  unfold g__law_clause_w2_J1
  rw [show dEq (.list (dInts c)) (.list []) = .ok (.bool (decide (c = []))) from eq_lists c []]
  by_cases he : c = []
  · simp only [rb_ok, rb_exc, asB_b, asI_i, i_sub, i_add, i_neg, i_abs, i_gt, i_ge, i_lt, i_le, i_eq, i_ne, i_intB, bIf_t, bIf_f, nxR_ok, nxR_exc, asS_l, asS_t, len_l, len_t, tup_l, asT2_t, asT2_l, asOI_i, Bool.not_true, Bool.not_false, he, decide_true]
    rw [Res.assoc]
    refine take_bind s1 (by omega) (by omega) fun r st1 hr s2 => ?_
    simp only [rb_ok, rb_exc, asB_b, asI_i, i_sub, i_add, i_neg, i_abs, i_gt, i_ge, i_lt, i_le, i_eq, i_ne, i_intB, bIf_t, bIf_f, nxR_ok, nxR_exc, asS_l, asS_t, len_l, len_t, tup_l, asT2_t, asT2_l, asOI_i, Bool.not_true, Bool.not_false]
    rw [Res.assoc]
    refine take_bind s2 (by decide) (by decide) fun q st2 hq s3 => ?_
    obtain ⟨z, hz, ez⟩ := sign_at hq
    obtain ⟨y, ey, hy⟩ := mul_sign (x := 1 + (r : Int)) hz
    simp only [rb_ok, rb_exc, asB_b, asI_i, i_sub, i_add, i_neg, i_abs, i_gt, i_ge, i_lt, i_le, i_eq, i_ne, i_intB, bIf_t, bIf_f, nxR_ok, nxR_exc, asS_l, asS_t, len_l, len_t, tup_l, asT2_t, asT2_l, asOI_i, Bool.not_true, Bool.not_false, ez, ey]
    refine ⟨_, rfl, [y], rfl, ⟨by simp, by simp, fun s m => ?_⟩, s3⟩
    rw [List.mem_singleton.mp m]
    unfold Sg; omega
  · simp only [rb_ok, rb_exc, asB_b, asI_i, i_sub, i_add, i_neg, i_abs, i_gt, i_ge, i_lt, i_le, i_eq, i_ne, i_intB, bIf_t, bIf_f, nxR_ok, nxR_exc, asS_l, asS_t, len_l, len_t, tup_l, asT2_t, asT2_l, asOI_i, Bool.not_true, Bool.not_false, he, decide_false]
    refine ⟨_, rfl, c, rfl, ⟨he, List.Pairwise.sublist hc List.pairwise_lt_range', fun s m => ?_⟩, s1⟩
    have := hc.subset (List.mem_map.mpr ⟨s, m, rfl⟩)
    rw [List.mem_range'_1] at this
    unfold Sg; omega
/-! ### the law's own leading -/
theorem lledsignW2_ok (hl : t.length = n) (hs : Sg n s) : g__law_led_sign_w2 (dTup t) (.int s) = .ok (.int (led t s)) := by
  unfold g__law_led_sign_w2
  have e : (if s < 0 then -s else s) = (s.natAbs : Int) := absI_nat s
  simp only [rb_ok, rb_exc, asB_b, asI_i, i_sub, i_add, i_neg, i_abs, i_gt, i_ge, i_lt, i_le, i_eq, i_ne, i_intB, bIf_t, bIf_f, nxR_ok, nxR_exc, asS_l, asS_t, len_l, len_t, tup_l, asT2_t, asT2_l, asOI_i, Bool.not_true, Bool.not_false, e, getD_at hs.1 (show s.natAbs ≤ t.length by rw [hl]; exact hs.2)]
  rw [led_at hs]
  by_cases p : s < 0
  · have p' : ¬ 0 < s := by omega
    simp only [rb_ok, rb_exc, asB_b, asI_i, i_sub, i_add, i_neg, i_abs, i_gt, i_ge, i_lt, i_le, i_eq, i_ne, i_intB, bIf_t, bIf_f, nxR_ok, nxR_exc, asS_l, asS_t, len_l, len_t, tup_l, asT2_t, asT2_l, asOI_i, Bool.not_true, Bool.not_false, p, p', decide_true, if_true, if_false, dIx_l1, i_mulm]
  · have p' : 0 < s := by have := hs.ne; omega
    simp only [rb_ok, rb_exc, asB_b, asI_i, i_sub, i_add, i_neg, i_abs, i_gt, i_ge, i_lt, i_le, i_eq, i_ne, i_intB, bIf_t, bIf_f, nxR_ok, nxR_exc, asS_l, asS_t, len_l, len_t, tup_l, asT2_t, asT2_l, asOI_i, Bool.not_true, Bool.not_false, p, p', decide_false, if_true, Bool.false_eq_true, if_false, dIx_l0, i_mul1]
theorem lex2 {a b c d : Int} (h : a ≠ c) : HT.lexLt [a, b] [c, d] = decide (a < c) := by
  rw [HT.lexLt_cons, if_neg h]
theorem rows_sorted {l : List Int} (nd : (l.map Int.natAbs).Nodup) : (sortT (l.map fun z => [absI z, z])).map (fun r => r.getD 1 0) = sortA l := by
  have hp := sortT_perm (l.map fun z => [absI z, z])
  have hm : ∀ r ∈ sortT (l.map fun z => [absI z, z]), ∃ z ∈ l, r = [absI z, z] := fun r m => by
    obtain ⟨z, mz, e⟩ := List.mem_map.mp (hp.mem_iff.mp m)
    exact ⟨z, mz, e.symm⟩
  have hq : ((sortT (l.map fun z => [absI z, z])).map (fun r => r.getD 1 0)).Perm l := by
    refine (hp.map _).trans ?_
    rw [List.map_map]
    conv => rhs; rw [← List.map_id l]
    rfl
  refine sortA_unique (hq.trans (sortA_perm l).symm) ((hq.map Int.natAbs).nodup_iff.mpr nd) ?_ (sortA_sorted l)
  rw [List.pairwise_map]
  refine (sortT_sorted (l.map fun z => [absI z, z])).imp_of_mem fun {r u} mr mu h => ?_
  obtain ⟨x, _, rfl⟩ := hm r mr
  obtain ⟨y, _, rfl⟩ := hm u mu
  show x.natAbs ≤ y.natAbs
  have := leT_iff.mp h
  by_cases e : absI y = absI x
  · rw [absI_nat, absI_nat] at e; omega
  · rw [lex2 e] at this
    have := of_decide_eq_false this
    rw [absI_nat, absI_nat] at this; omega
theorem lledclauseW2_ok (hc : Cl n c) (ht : IsT n t) (hn : n ≤ 1000) : g__law_led_clause_w2 (dTup c) (dTup t) = .ok (dTup (ledC t c)) := by
  unfold g__law_led_clause_w2 ledC
  simp only [rb_ok, rb_exc, asB_b, asI_i, i_sub, i_add, i_neg, i_abs, i_gt, i_ge, i_lt, i_le, i_eq, i_ne, i_intB, bIf_t, bIf_f, nxR_ok, nxR_exc, asS_l, asS_t, len_l, len_t, tup_l, asT2_t, asT2_l, asOI_i, Bool.not_true, Bool.not_false]
  rw [lcR_map (f := g__law_led_clause_w2_C1 (dTup t)) (emb := PyData.int) (emb' := dTup) (g := fun s => [absI (led t s), led t s]) (by have := hc.len; omega) fun s m => by
    unfold g__law_led_clause_w2_C1
    simp only [rb_ok, rb_exc, asB_b, asI_i, i_sub, i_add, i_neg, i_abs, i_gt, i_ge, i_lt, i_le, i_eq, i_ne, i_intB, bIf_t, bIf_f, nxR_ok, nxR_exc, asS_l, asS_t, len_l, len_t, tup_l, asT2_t, asT2_l, asOI_i, Bool.not_true, Bool.not_false, lledsignW2_ok ht.len (hc.2.2 s m)]
    rfl]
  simp only [rb_ok, rb_exc, asB_b, asI_i, i_sub, i_add, i_neg, i_abs, i_gt, i_ge, i_lt, i_le, i_eq, i_ne, i_intB, bIf_t, bIf_f, nxR_ok, nxR_exc, asS_l, asS_t, len_l, len_t, tup_l, asT2_t, asT2_l, asOI_i, Bool.not_true, Bool.not_false]
  have e : (c.map fun s => [absI (led t s), led t s]) = (c.map (led t)).map fun z => [absI z, z] := by rw [List.map_map]; rfl
  rw [e, gSorted_tups (okT_ne fun r m => by
    obtain ⟨z, _, rfl⟩ := List.mem_map.mp m
    simp)]
  simp only [rb_ok, rb_exc, asB_b, asI_i, i_sub, i_add, i_neg, i_abs, i_gt, i_ge, i_lt, i_le, i_eq, i_ne, i_intB, bIf_t, bIf_f, nxR_ok, nxR_exc, asS_l, asS_t, len_l, len_t, tup_l, asT2_t, asT2_l, asOI_i, Bool.not_true, Bool.not_false]
  rw [lcR_map (f := g__law_led_clause_w2_C2) (emb := dTup) (emb' := PyData.int) (g := fun r => r.getD 1 0) (by rw [(sortT_perm _).length_eq]; have := hc.len; simp; omega) fun r m => by
    obtain ⟨z, mz, e⟩ := List.mem_map.mp ((sortT_perm _).mem_iff.mp m)
    subst e
    unfold g__law_led_clause_w2_C2
    rfl]
  simp only [rb_ok, rb_exc, asB_b, asI_i, i_sub, i_add, i_neg, i_abs, i_gt, i_ge, i_lt, i_le, i_eq, i_ne, i_intB, bIf_t, bIf_f, nxR_ok, nxR_exc, asS_l, asS_t, len_l, len_t, tup_l, asT2_t, asT2_l, asOI_i, Bool.not_true, Bool.not_false, rows_sorted (led_nd ht hc.2.2 hc.nd)]
/-! ### likeness of plain data -/
theorem eqv_tups : ∀ ts us : List (List Int), PyData.eqvAll (dTups ts) (dTups us) = decide (ts = us)
  | [], [] => rfl
  | [], u :: us => rfl
  | t :: ts, [] => rfl
  | t :: ts, u :: us => by
    show (PyData.eqvAll (dInts t) (dInts u) && PyData.eqvAll (dTups ts) (dTups us)) = _
    rw [eqv_tups ts us, eqv_ints]
    by_cases e : t = u <;> by_cases e2 : ts = us <;> simp [e, e2]
theorem lay_ints : ∀ t : List Int, PyData.canLayAll0 (dInts t) = true
  | [] => rfl
  | x :: t => by
    show (PyData.canLay0 (.int x) && PyData.canLayAll0 (dInts t)) = true
    rw [lay_ints t]; rfl
theorem lay_tups : ∀ ts : List (List Int), PyData.canLayAll0 (dTups ts) = true
  | [] => rfl
  | t :: ts => by
    show (PyData.canLayAll0 (dInts t) && PyData.canLayAll0 (dTups ts)) = true
    rw [lay_tups ts, lay_ints]; rfl
theorem dep_ints : ∀ t : List Int, PyData.depthAll (dInts t) = 0
  | [] => rfl
  | x :: t => by
    show max (PyData.depth (.int x)) (PyData.depthAll (dInts t)) = 0
    rw [dep_ints t]; rfl
theorem dep_tups : ∀ ts : List (List Int), PyData.depthAll (dTups ts) ≤ 1
  | [] => Nat.zero_le _
  | t :: ts => by
    show max (PyData.depthAll (dInts t) + 1) (PyData.depthAll (dTups ts)) ≤ 1
    have := dep_tups ts
    rw [dep_ints]; omega
theorem shaped_tups (ts : List (List Int)) : SeqAt.shaped (.list (dTups ts)) = true := by
  have h := dep_tups ts
  show (PyData.canLayAll0 (dTups ts) && decide (PyData.depthAll (dTups ts) + 1 ≤ 64)) = true
  rw [lay_tups, Bool.true_and]
  exact decide_eq_true (by omega)
theorem shaped_rid (n : Nat) (cs : List (List Int)) : SeqAt.shaped (dRid n cs) = true := by
  have h := dep_tups cs
  show ((true && (PyData.canLayAll0 (dTups cs) && true)) && decide (max 0 (max (PyData.depthAll (dTups cs) + 1) 0) + 1 ≤ 64)) = true
  rw [lay_tups]
  simp; omega
theorem ne_tl (ts us : List (List Int)) : dNe (.list (dTups ts)) (.list (dTups us)) = .ok (.bool (!decide (ts = us))) := by
  unfold dNe
  rw [if_pos (by rw [shaped_tups, shaped_tups]; rfl)]
  show Res.ok (PyData.bool (!PyData.eqvAll (dTups ts) (dTups us))) = _
  rw [eqv_tups]
theorem ne_rid (n : Nat) (ts us : List (List Int)) : dNe (dRid n ts) (dRid n us) = .ok (.bool (!decide (ts = us))) := by
  unfold dNe
  rw [if_pos (by rw [shaped_rid, shaped_rid]; rfl)]
  have : PyData.eqv (dRid n ts) (dRid n us) = decide (ts = us) := by
    show (PyData.eqv (.int n) (.int n) && (PyData.eqvAll (dTups ts) (dTups us) && true)) = _
    rw [eqv_tups, Bool.and_true]
    simp [PyData.eqv]
  rw [this]
/-! ### the riddle drawn -/
theorem popR_ok {α : Type} {emb : α → D} {xs : List α} {x : α} : popR ((xs ++ [x]).map emb) = .ok (emb x, xs.map emb) := by
  unfold popR
  have e1 : ((xs ++ [x]).map emb)[((xs ++ [x]).map emb).length - 1]? = some (emb x) := by simp
  have e2 : ((xs ++ [x]).map emb).dropLast = xs.map emb := by simp
  rw [e1, e2]
theorem riddleOf_sat (hs : StOk st) (hn : n ≤ 5) : Sat (g__law_riddle_of st (.int n)) fun p => ∃ cs, p.1 = dRid n cs ∧ Rid n cs ∧ cs.length ≤ 30 ∧ StOk p.2 := by
  unfold g__law_riddle_of
  refine Sat.nx ?_
  by_cases h0 : n = 0
  · subst h0
    refine ⟨(dRid 0 [], st), rfl, [], rfl, ⟨List.Pairwise.nil, fun c m => by cases m⟩, by simp, hs⟩
  have h0' : ¬ ((n : Int) = 0) := by omega
  simp only [rb_ok, rb_exc, asB_b, asI_i, i_sub, i_add, i_neg, i_abs, i_gt, i_ge, i_lt, i_le, i_eq, i_ne, i_intB, bIf_t, bIf_f, nxR_ok, nxR_exc, asS_l, asS_t, len_l, len_t, tup_l, asT2_t, asT2_l, asOI_i, Bool.not_true, Bool.not_false, h0', decide_false]
  refine take_bind hs (by decide) (by decide) fun r st1 hr s1 => ?_
  obtain ⟨most, hm, em⟩ : ∃ m : Nat, m ≤ 12 ∧ dIx (.list [.int 3, .int 5, .int 12]) (.int r) = .ok (.int m) := by
    have : r = 0 ∨ r = 1 ∨ r = 2 := by omega
    rcases this with rfl | rfl | rfl
    · exact ⟨3, by omega, dIx_l (n := 0) rfl⟩
    · exact ⟨5, by omega, dIx_l (n := 1) rfl⟩
    · exact ⟨12, by omega, dIx_l (n := 2) rfl⟩
  simp only [rb_ok, rb_exc, asB_b, asI_i, i_sub, i_add, i_neg, i_abs, i_gt, i_ge, i_lt, i_le, i_eq, i_ne, i_intB, bIf_t, bIf_f, nxR_ok, nxR_exc, asS_l, asS_t, len_l, len_t, tup_l, asT2_t, asT2_l, asOI_i, Bool.not_true, Bool.not_false, em]
  refine take_bind s1 (by omega) (by omega) fun q st2 hq s2 => ?_
  simp only [rb_ok, rb_exc, asB_b, asI_i, i_sub, i_add, i_neg, i_abs, i_gt, i_ge, i_lt, i_le, i_eq, i_ne, i_intB, bIf_t, bIf_f, nxR_ok, nxR_exc, asS_l, asS_t, len_l, len_t, tup_l, asT2_t, asT2_l, asOI_i, Bool.not_true, Bool.not_false, gRg_nat (show q < 2 ^ 62 by omega)]
  have key : Sat (foldR (g__law_riddle_of_L1 (.int n)) ((List.range q).map fun k : Nat => .int k) (st2, dtS [])) fun s => ∃ st' ts, s = (st', dtS ts) ∧ StOk st' ∧ ts.Nodup ∧ (∀ c ∈ ts, Cl n c) := by
    refine (foldR_sat (I := fun rest s => ∃ st' ts, s = (st', dtS ts) ∧ StOk st' ∧ ts.Nodup ∧ (∀ c ∈ ts, Cl n c)) (fun d rest s ⟨st', ts, es, h1, h2, h3⟩ => ?_) ⟨st2, [], rfl, s2, List.nodup_nil, fun c m => by cases m⟩).mono fun s h => h
    subst es
    unfold g__law_riddle_of_L1
    refine (clauseW2_sat h1 (by omega) hn).bind fun p ⟨c, ec, hc, s3⟩ => ?_
    rw [ec, putTS_ok (by have := cls_len hn h2 h3; omega)]
    refine ⟨_, rfl, p.2, _, rfl, s3, ?_, ?_⟩
    · split
      · exact h2
      · rename_i hni
        rw [List.nodup_append]
        exact ⟨h2, by simp, fun a ma b mb e => hni (by rw [← List.mem_singleton.mp mb, ← e]; exact ma)⟩
    · split
      · exact h3
      · exact fun x m => (List.mem_append.mp m).elim (h3 x) fun m => by rw [List.mem_singleton.mp m]; exact hc
  refine key.bind fun s ⟨st3, ts, es, s3, nd, hcl⟩ => ?_
  subst es
  refine (turning_sat s3 hn).bind fun p ⟨t, et, ht, s4⟩ => ?_
  have hlen : ∀ c ∈ ts, c.length ≤ 1000 := fun c m => by have := (hcl c m).len; omega
  have hts := cls_len hn nd hcl
  simp only [et, listDS_ok (show ts.length ≤ 16777216 by omega) hlen, rb_ok]
  refine take_bind s4 (by decide) (by decide) fun z st5 hz s5 => ?_
  obtain ⟨fs, ef, hfs, hfl⟩ : ∃ fs : List (List Int), ((dIx (.list [.int 1, .int 0]) (.int z)).bind fun x15 => gRep (.list (dTups ts)) x15) = .ok (dTups fs) ∧ (∀ c ∈ fs, Cl n c) ∧ fs.length ≤ 243 := by
    have : z = 0 ∨ z = 1 := by omega
    rcases this with rfl | rfl
    · refine ⟨ts, ?_, hcl, hts⟩
      rw [show dIx (.list [.int 1, .int 0]) (.int ((0 : Nat) : Int)) = .ok (.int 1) from dIx_l (n := 0) rfl, rb_ok, gRep_ok ⟨by decide, by decide, le_size (by simp; omega)⟩]
      simp [List.replicate]
    · refine ⟨[], ?_, (fun c m => by cases m), by simp⟩
      rw [show dIx (.list [.int 1, .int 0]) (.int ((1 : Nat) : Int)) = .ok (.int 0) from dIx_l (n := 1) rfl, rb_ok, gRep_ok ⟨by decide, by decide, le_size (by simp)⟩]
      simp
  rw [← Res.assoc, ef, rb_ok]
  have wh := whR_sat (t := g__law_riddle_of_W1t) (f := g__law_riddle_of_W1 (dTup t)) (I := fun s => ∃ ts fs, s = (dtS ts, dTups fs) ∧ ts.Nodup ∧ (∀ c ∈ ts, Cl n c) ∧ (∀ c ∈ fs, Cl n c) ∧ fs.length ≤ 243) (μ := fun s => 2 * (243 - s.1.length) + s.2.length) (fun s ⟨ts, fs, es, h1, h2, h3, h4⟩ => by
    subst es
    refine Sat.of (a := !decide (fs = [])) (by
      unfold g__law_riddle_of_W1t
      rw [show dNe (.list (dTups fs)) (.list []) = .ok (.bool (!decide (fs = []))) from ne_tl fs []]; rfl) fun hc => ?_
    have hne : fs ≠ [] := by simpa using hc
    obtain ⟨gs, g, rfl⟩ : ∃ gs g, fs = gs ++ [g] := ⟨fs.dropLast, fs.getLast hne, (List.dropLast_concat_getLast hne).symm⟩
    have hg := h3 g (by simp)
    have hgs : ∀ c ∈ gs, Cl n c := fun c m => h3 c (by simp [m])
    have l2 := cls_len hn h1 h2
    unfold g__law_riddle_of_W1
    have e1 : popR (dTups (gs ++ [g])) = .ok (dTup g, dTups gs) := popR_ok
    simp only [rb_ok, rb_exc, asB_b, asI_i, i_sub, i_add, i_neg, i_abs, i_gt, i_ge, i_lt, i_le, i_eq, i_ne, i_intB, bIf_t, bIf_f, nxR_ok, nxR_exc, asS_l, asS_t, len_l, len_t, tup_l, asT2_t, asT2_l, asOI_i, Bool.not_true, Bool.not_false, e1, lledclauseW2_ok hg ht (show n ≤ 1000 by omega)]
    unfold g__law_riddle_of_J1
    by_cases hm : ledC t g ∈ ts
    · simp only [rb_ok, rb_exc, asB_b, asI_i, i_sub, i_add, i_neg, i_abs, i_gt, i_ge, i_lt, i_le, i_eq, i_ne, i_intB, bIf_t, bIf_f, nxR_ok, nxR_exc, asS_l, asS_t, len_l, len_t, tup_l, asT2_t, asT2_l, asOI_i, Bool.not_true, Bool.not_false, getTS_ok, hm, if_true, Option.isSome_some, Bool.not_true]
      refine ⟨_, rfl, ⟨ts, gs, rfl, h1, h2, hgs, by simp at h4; omega⟩, ?_⟩
      show 2 * (243 - (dtS ts).length) + (dTups gs).length < 2 * (243 - (dtS ts).length) + (dTups (gs ++ [g])).length
      simp
    · have e2 : appR (dTups gs) (dTup (ledC t g)) = .ok (dTups (gs ++ [ledC t g])) := by
        rw [appR_ok (by simp at h4 ⊢; omega)]
        unfold dTups
        rw [List.map_append]; rfl
      simp only [rb_ok, rb_exc, asB_b, asI_i, i_sub, i_add, i_neg, i_abs, i_gt, i_ge, i_lt, i_le, i_eq, i_ne, i_intB, bIf_t, bIf_f, nxR_ok, nxR_exc, asS_l, asS_t, len_l, len_t, tup_l, asT2_t, asT2_l, asOI_i, Bool.not_true, Bool.not_false, getTS_ok, hm, if_false, Option.isSome_none, Bool.not_false, putTS_ok (show ts.length < 16777216 by omega), e2]
      refine ⟨_, rfl, ⟨ts ++ [ledC t g], gs ++ [ledC t g], rfl, ?_, ?_, ?_, by simp at h4 ⊢; omega⟩, ?_⟩
      · rw [List.nodup_append]
        exact ⟨h1, by simp, fun a ma b mb e => hm (by rw [← List.mem_singleton.mp mb, ← e]; exact ma)⟩
      · exact fun x m => (List.mem_append.mp m).elim (h2 x) fun m => by rw [List.mem_singleton.mp m]; exact ledC_Cl hg ht
      · exact fun x m => (List.mem_append.mp m).elim (hgs x) fun m => by rw [List.mem_singleton.mp m]; exact ledC_Cl hg ht
      · have l3 : (ts ++ [ledC t g]).length ≤ 243 := cls_len hn (by
          rw [List.nodup_append]
          exact ⟨h1, by simp, fun a ma b mb e => hm (by rw [← List.mem_singleton.mp mb, ← e]; exact ma)⟩) fun x m => (List.mem_append.mp m).elim (h2 x) fun m => by rw [List.mem_singleton.mp m]; exact ledC_Cl hg ht
        have l4 : (dtS (ts ++ [ledC t g])).length = ts.length + 1 := by unfold dtS dtM; simp
        have l5 : (dtS ts).length = ts.length := by unfold dtS dtM; simp
        show 2 * (243 - (dtS (ts ++ [ledC t g])).length) + (dTups (gs ++ [ledC t g])).length < 2 * (243 - (dtS ts).length) + (dTups (gs ++ [g])).length
        rw [l4, l5]
        simp at l3 ⊢; omega) (n := fuel) (s := (dtS ts, dTups fs)) ⟨ts, fs, rfl, nd, hcl, hfs, hfl⟩ (by
    show 2 * (243 - (dtS ts).length) + (dTups fs).length < fuel
    rw [List.length_map]
    unfold fuel; omega)
  refine wh.bind fun s ⟨⟨us, gs, es, h1, h2, h3, _⟩, _⟩ => ?_
  subst es
  have hus := cls_len hn h1 h2
  rw [sortTS_ok (show us.length ≤ 16777216 by omega) (fun c m => by have := (h2 c m).len; omega) (okT_ne fun c m => (h2 c m).1), rb_ok]
  have e3 : dSl (.list (dTups (sortT us))) none (some 30) = .ok (.list (dTups ((sortT us).take 30))) := by
    have h0 : HT.sIx (dTups (sortT us)).length 0 none = 0 := by
      unfold HT.sIx
      first | rfl | simp
    have h1 : HT.sIx (dTups (sortT us)).length (dTups (sortT us)).length (some 30) = min 30 (dTups (sortT us)).length := by
      unfold HT.sIx
      first | rfl | (simp; done) | (simp only []; omega)
    show Res.ok (PyData.list (VS.cutD _ _ _)) = _
    unfold VS.cutD
    rw [h0, h1, List.drop_zero, Nat.sub_zero]
    have e5 : ∀ xs : List D, xs.take (min 30 xs.length) = xs.take 30 := fun xs => by
      rw [List.take_eq_take_iff]; omega
    rw [e5, dTups, ← List.map_take]
  have e4 : gTup (.list (dTups ((sortT us).take 30))) = .ok (.tuple (dTups ((sortT us).take 30))) := rfl
  simp only [rb_ok, rb_exc, asB_b, asI_i, i_sub, i_add, i_neg, i_abs, i_gt, i_ge, i_lt, i_le, i_eq, i_ne, i_intB, bIf_t, bIf_f, nxR_ok, nxR_exc, asS_l, asS_t, len_l, len_t, tup_l, asT2_t, asT2_l, asOI_i, Bool.not_true, Bool.not_false, e3, e4]
  refine ⟨_, rfl, _, rfl, ⟨List.Pairwise.sublist (List.take_sublist _ _) (sortT_rise h1), fun c m => h2 c ((sortT_perm us).mem_iff.mp (List.mem_of_mem_take m))⟩, ?_, s5⟩
  rw [List.length_take]; omega
end
end LW

set_option Elab.async false
set_option linter.all false
set_option maxRecDepth 100000
set_option maxHeartbeats 4000000
namespace LW
open PySem PySem.Spec PyProof.Rows L2 VS
theorem isTrue_t : dNotB (.bool true) (.bool true) = .ok (.bool false) := id rfl
theorem isTrue_f : dNotB (.bool false) (.bool true) = .ok (.bool true) := id rfl
section
variable {n : Nat} {t u : List Int}
theorem isturning_true (ht : IsT n t) (hn : n ≤ 5) : g_is_turning (.int n) (dTup t) = .ok (.bool true) := by
  rw [isturning_ok (by rw [ht.len]; omega) (by omega), isT_iff.mpr ht]
theorem right_ok (ht : IsT n t) (hu : IsT n u) (hn : n ≤ 5) : g__law_turnings_right (dTup t) (dTup u) = .ok (.bool true) := by
  unfold g__law_turnings_right
  have n1 : n ≤ 1000 := by omega
  have hb := bk_IsT ht
  have hA1 : g__law_turnings_right_A1 (dTup t) (.int n) (dTup (comp t u)) = .ok false := by
    unfold g__law_turnings_right_A1
    simp only [rb_ok, rb_exc, asB_b, asI_i, i_sub, i_add, i_neg, i_abs, i_gt, i_ge, i_lt, i_le, i_eq, i_ne, i_intB, bIf_t, bIf_f, nxR_ok, nxR_exc, asS_l, asS_t, len_l, len_t, tup_l, asT2_t, asT2_l, asOI_i, Bool.not_true, Bool.not_false, isturning_true (comp_IsT ht hu) hn, isturning_true hb hn, back_ok ht n1, isTrue_t]
  have hA2 : g__law_turnings_right_A2 (dTup t) (.int n) = .ok false := by
    unfold g__law_turnings_right_A2
    simp only [rb_ok, rb_exc, asB_b, asI_i, i_sub, i_add, i_neg, i_abs, i_gt, i_ge, i_lt, i_le, i_eq, i_ne, i_intB, bIf_t, bIf_f, nxR_ok, nxR_exc, asS_l, asS_t, len_l, len_t, tup_l, asT2_t, asT2_l, asOI_i, Bool.not_true, Bool.not_false, back_ok ht n1, behind_ok ht hb n1, behind_ok hb ht n1, still_ok n1, comp_bk ht, bk_comp ht, ne_tups, decide_true]
  simp only [rb_ok, rb_exc, asB_b, asI_i, i_sub, i_add, i_neg, i_abs, i_gt, i_ge, i_lt, i_le, i_eq, i_ne, i_intB, bIf_t, bIf_f, nxR_ok, nxR_exc, asS_l, asS_t, len_l, len_t, tup_l, asT2_t, asT2_l, asOI_i, Bool.not_true, Bool.not_false, List.length_map, ht.len, behind_ok ht hu n1, hA1, hA2]
  have eR : gRg (1, (n : Int) + 1) = .ok ((List.range' 1 n).map fun k : Nat => PyData.int k) := gRg1 n1
  have e0 : dAddL (.int n) (.int 1) = .ok (.int ((n : Int) + 1)) := i_add _ _
  simp only [rb_ok, rb_exc, asB_b, asI_i, i_sub, i_add, i_neg, i_abs, i_gt, i_ge, i_lt, i_le, i_eq, i_ne, i_intB, bIf_t, bIf_f, nxR_ok, nxR_exc, asS_l, asS_t, len_l, len_t, tup_l, asT2_t, asT2_l, asOI_i, Bool.not_true, Bool.not_false, e0, eR]
  rw [forR_unit (fun d m => by
    obtain ⟨k, mk, rfl⟩ := List.mem_map.mp m
    have hs : Sg n (k : Int) := range'_sg mk
    unfold g__law_turnings_right_L1 g__law_turnings_right_A3
    have e1 : g_led_sign (dTup (comp t u)) (.int k) = .ok (.int (led u (led t k))) := by
      rw [ledsign_ok (comp_IsT ht hu).len hs, comp_led ht hu hs]
    simp only [rb_ok, rb_exc, asB_b, asI_i, i_sub, i_add, i_neg, i_abs, i_gt, i_ge, i_lt, i_le, i_eq, i_ne, i_intB, bIf_t, bIf_f, nxR_ok, nxR_exc, asS_l, asS_t, len_l, len_t, tup_l, asT2_t, asT2_l, asOI_i, Bool.not_true, Bool.not_false, e1, ledsign_ok ht.len hs, ledsign_ok hu.len (led_sg ht hs), ledsign_ok ht.len hs.opp, led_opp hs.ne, decide_true])]
  simp only [rb_ok, rb_exc, asB_b, asI_i, i_sub, i_add, i_neg, i_abs, i_gt, i_ge, i_lt, i_le, i_eq, i_ne, i_intB, bIf_t, bIf_f, nxR_ok, nxR_exc, asS_l, asS_t, len_l, len_t, tup_l, asT2_t, asT2_l, asOI_i, Bool.not_true, Bool.not_false, lpK, still_ok n1]
  obtain ⟨d, eo, r, hr, rfl, e1, e2⟩ := order_ok hn ht
  have e3 : (((r + 1 : Nat) : Int) - 1) = (r : Int) := by omega
  simp only [rb_ok, rb_exc, asB_b, asI_i, i_sub, i_add, i_neg, i_abs, i_gt, i_ge, i_lt, i_le, i_eq, i_ne, i_intB, bIf_t, bIf_f, nxR_ok, nxR_exc, asS_l, asS_t, len_l, len_t, tup_l, asT2_t, asT2_l, asOI_i, Bool.not_true, Bool.not_false, eo, e3, gRg_nat (show r < 2 ^ 62 by omega)]
  have key : Sat (forR (g__law_turnings_right_L2 (dTup t) (.int n)) ((List.range r).map fun k : Nat => PyData.int k) (dTup (stillL n))) fun o => ∃ s', o = .nx s' ∧ ∃ w, s' = dTup w ∧ IsT n w ∧ comp w t = pw t r := by
    refine (forR_nx (I := fun rest s => ∃ j w, s = dTup w ∧ IsT n w ∧ comp w t = pw t j ∧ j + rest.length = r) (fun d rest s ⟨j, w, es, hw, ew, hj⟩ => ?_) ⟨0, stillL n, rfl, still_IsT, still_comp ht, by simp⟩).mono fun o ⟨s', eo, j, w, es, hw, ew, hj⟩ => ⟨s', eo, w, es, hw, by
      have : j = r := by simpa using hj
      rw [ew, this]⟩
    subst es
    have hj' : j < r := by rw [List.length_cons] at hj; omega
    have hne := e2 j hj'
    unfold g__law_turnings_right_L2
    simp only [rb_ok, rb_exc, asB_b, asI_i, i_sub, i_add, i_neg, i_abs, i_gt, i_ge, i_lt, i_le, i_eq, i_ne, i_intB, bIf_t, bIf_f, nxR_ok, nxR_exc, asS_l, asS_t, len_l, len_t, tup_l, asT2_t, asT2_l, asOI_i, Bool.not_true, Bool.not_false, behind_ok hw ht n1, ew, still_ok n1, eq_tups, hne, decide_false]
    exact ⟨_, rfl, _, rfl, j + 1, pw t j, rfl, pw_IsT ht j, rfl, by rw [List.length_cons] at hj; omega⟩
  obtain ⟨o, ek, s', rfl, w, rfl, hw, ew⟩ := key
  rw [ek]
  simp only [rb_ok, rb_exc, asB_b, asI_i, i_sub, i_add, i_neg, i_abs, i_gt, i_ge, i_lt, i_le, i_eq, i_ne, i_intB, bIf_t, bIf_f, nxR_ok, nxR_exc, asS_l, asS_t, len_l, len_t, tup_l, asT2_t, asT2_l, asOI_i, Bool.not_true, Bool.not_false, lpK, behind_ok hw ht n1, ew, e1, eq_tups, decide_true]
end
end LW

set_option Elab.async false
set_option linter.all false
set_option maxRecDepth 100000
set_option maxHeartbeats 4000000
namespace LW
open PySem PySem.Spec PyProof.Rows L2 VS
section
variable {n : Nat} {t u : List Int}
theorem ne_self (b : Bool) : dNe (.bool b) (.bool b) = .ok (.bool false) := by cases b <;> rfl
theorem bits3 : g__law_bits (.int 3) = .ok (.list (dTups (allA 3))) := by rfl
theorem bits4 : g__law_bits (.int 4) = .ok (.list (dTups (allA 4))) := by rfl
theorem bits_ok (hn : n ≤ 5) : g__law_bits (.int n) = .ok (.list (dTups (allA n))) := by
  have : n = 0 ∨ n = 1 ∨ n = 2 ∨ n = 3 ∨ n = 4 ∨ n = 5 := by omega
  rcases this with rfl | rfl | rfl | rfl | rfl | rfl
  · exact bits0
  · exact bits1
  · exact bits2
  · exact bits3
  · exact bits4
  · exact bits5
theorem loop24 (ns : List Int) (k : Nat) : g_law_k24_L2 ns (.int k) () = .ok (.nx ()) := by
  have key : Sat (g_law_k24_L2 ns (.int k) ()) fun o => o = .nx () := by
    unfold g_law_k24_L2
    refine (state_sat ns k).bind fun st hs => ?_
    refine take_bind hs (by decide) (by decide) fun n st1 hn' s1 => ?_
    have hn : n ≤ 5 := by omega
    have n1 : n ≤ 1000 := by omega
    refine (riddleOf_sat s1 hn).bind fun p ⟨cs, ep, hr, hl, s2⟩ => ?_
    rw [ep]
    have e0 : gRg (0, 2) = .ok ((List.range 2).map fun k : Nat => PyData.int k) := gRg_nat (n := 2) (by decide)
    rw [e0, rb_ok]
    refine (lcSR_sat (I := StOk) (P := fun d => ∃ t, d = dTup t ∧ IsT n t) (by simp) (fun d m s hs => by
      unfold g_law_k24_C1
      simp only [rb_ok, rb_exc, asB_b, asI_i, i_sub, i_add, i_neg, i_abs, i_gt, i_ge, i_lt, i_le, i_eq, i_ne, i_intB, bIf_t, bIf_f, nxR_ok, nxR_exc, asS_l, asS_t, len_l, len_t, tup_l, asT2_t, asT2_l, asOI_i, Bool.not_true, Bool.not_false, dIx_t0]
      refine (turning_sat hs hn).bind fun p ⟨t, et, ht, s3⟩ => ?_
      exact ⟨_, rfl, ⟨t, et, ht⟩, s3⟩) s2).bind fun q ⟨hq, hql, s3⟩ => ?_
    obtain ⟨a, b, eq⟩ : ∃ a b, q.1 = [a, b] := by
      rw [List.length_map, List.length_range] at hql
      cases hq1 : q.1 with
      | nil => rw [hq1] at hql; cases hql
      | cons a l =>
        cases l with
        | nil => rw [hq1] at hql; cases hql
        | cons b l =>
          cases l with
          | nil => exact ⟨a, b, rfl⟩
          | cons c l => rw [hq1] at hql; simp at hql
    obtain ⟨t, rfl, ht⟩ := hq a (by rw [eq]; simp)
    obtain ⟨u, rfl, hu⟩ := hq b (by rw [eq]; simp)
    have hR := ledR_Rid hr ht
    have hRl : (ledR t cs).length ≤ 30 := by rw [ledR_len]; exact hl
    have hRu := ledR_Rid hR hu
    have htu := comp_IsT ht hu
    have hb := bk_IsT ht
    have hA1 : g_law_k24_A1 (dRid n cs) (dRid n (ledR t cs)) (dTup t) = .ok false := by
      unfold g_law_k24_A1
      simp only [rb_ok, rb_exc, asB_b, asI_i, i_sub, i_add, i_neg, i_abs, i_gt, i_ge, i_lt, i_le, i_eq, i_ne, i_intB, bIf_t, bIf_f, nxR_ok, nxR_exc, asS_l, asS_t, len_l, len_t, tup_l, asT2_t, asT2_l, asOI_i, Bool.not_true, Bool.not_false, riddle_true hn hRl hR, isTrue_t, dIx_t1, len_t, List.length_map, ledR_len, back_ok ht n1, led_ok hR hb n1 hRl, ledR_back hr ht, ne_rid, decide_true]
    have hA2 : g_law_k24_A2 (dRid n cs) (dRid n (ledR t cs)) (dTup t) (dTup u) = .ok false := by
      unfold g_law_k24_A2
      simp only [rb_ok, rb_exc, asB_b, asI_i, i_sub, i_add, i_neg, i_abs, i_gt, i_ge, i_lt, i_le, i_eq, i_ne, i_intB, bIf_t, bIf_f, nxR_ok, nxR_exc, asS_l, asS_t, len_l, len_t, tup_l, asT2_t, asT2_l, asOI_i, Bool.not_true, Bool.not_false, led_ok hR hu n1 hRl, behind_ok ht hu n1, led_ok hr htu n1 hl, ledR_comp hr ht hu, ne_rid, decide_true, dIx_t0, still_ok n1, led_ok hr still_IsT n1 hl, ledR_still hr]
    have hL1 : forR (g_law_k24_L1 (dRid n cs) (dRid n (ledR t cs)) (dTup t) (dTup u)) (dTups (allA n)) () = .ok (.nx ()) := forR_unit fun d m => by
      obtain ⟨a, ma, rfl⟩ := List.mem_map.mp m
      have ha := mem_allA.mp ma
      have hta := ledB_Bits ha ht
      unfold g_law_k24_L1
      simp only [rb_ok, rb_exc, asB_b, asI_i, i_sub, i_add, i_neg, i_abs, i_gt, i_ge, i_lt, i_le, i_eq, i_ne, i_intB, bIf_t, bIf_f, nxR_ok, nxR_exc, asS_l, asS_t, len_l, len_t, tup_l, asT2_t, asT2_l, asOI_i, Bool.not_true, Bool.not_false, keeps_ok ha n1 hr hl, ledans_ok ha ht n1, keeps_ok hta n1 hR hRl, keepsR_led ha ht hr, ledans_ok hta hu n1, behind_ok ht hu n1, ledans_ok ha htu n1, ledB_comp ha ht hu, ne_tups, decide_true, ne_self]
    have hC2 : lcR (g_law_k24_C2 (dTup t)) (dTups (ansL n cs)) = .ok (dTups ((ansL n cs).map (ledB t))) := lcR_map (emb := dTup) (emb' := dTup) (by
      have h1 : (ansL n cs).length ≤ (allA n).length := List.length_filter_le _ _
      have h2 : (allA n).length ≤ 32 := by
        rw [allA_len]
        exact Nat.le_trans (Nat.pow_le_pow_right (by decide) hn) (by decide)
      omega) fun a ma => by
        unfold g_law_k24_C2
        simp only [rb_ok, rb_exc, asB_b, asI_i, i_sub, i_add, i_neg, i_abs, i_gt, i_ge, i_lt, i_le, i_eq, i_ne, i_intB, bIf_t, bIf_f, nxR_ok, nxR_exc, asS_l, asS_t, len_l, len_t, tup_l, asT2_t, asT2_l, asOI_i, Bool.not_true, Bool.not_false, ledans_ok (mem_ansL.mp ma).1 ht n1]
    have hS : gSorted2 (.list (dTups ((ansL n cs).map (ledB t)))) = .ok (dTups (ansL n (ledR t cs))) := by
      rw [gSorted_tups (okT_iff.mpr (by
        by_cases h0 : n = 0
        · left
          subst h0
          rw [List.length_map]
          exact Nat.le_trans (List.length_filter_le _ _) (by decide)
        · right
          intro r m e
          obtain ⟨a, ma, er⟩ := List.mem_map.mp m
          have := ledB_len (t := t) (a := a)
          rw [er, e, (mem_ansL.mp ma).1.1] at this
          exact h0 this.symm)), ansL_led hr ht]
    simp only [rb_ok, rb_exc, asB_b, asI_i, i_sub, i_add, i_neg, i_abs, i_gt, i_ge, i_lt, i_le, i_eq, i_ne, i_intB, bIf_t, bIf_f, nxR_ok, nxR_exc, asS_l, asS_t, len_l, len_t, tup_l, asT2_t, asT2_l, asOI_i, Bool.not_true, Bool.not_false, eq, right_ok ht hu hn, led_ok hr ht n1 hl, hA1, hA2, dIx_t0, bits_ok hn, hL1, lpK, answers_ok hn hr hl, hC2, hS, answers_ok hn hR hRl, ne_tl, decide_true]
    exact ⟨_, rfl, rfl⟩
  obtain ⟨o, e, rfl⟩ := key
  exact e
theorem law24 (ns : List Int) : g_law_k24 ns = .ok (.bool true) := by
  unfold g_law_k24
  refine nxR_of ?_
  simp only [rb_ok, rb_exc, asB_b, asI_i, i_sub, i_add, i_neg, i_abs, i_gt, i_ge, i_lt, i_le, i_eq, i_ne, i_intB, bIf_t, bIf_f, nxR_ok, nxR_exc, asS_l, asS_t, len_l, len_t, tup_l, asT2_t, asT2_l, asOI_i, Bool.not_true, Bool.not_false, i_max, i_min]
  obtain ⟨m, hm, em⟩ : ∃ m : Nat, m ≤ 6 ∧ (if (if (6 : Int) < (ns.length : Int) then (6 : Int) else (ns.length : Int)) > 1 then (if (6 : Int) < (ns.length : Int) then (6 : Int) else (ns.length : Int)) else 1) = (m : Int) := by
    by_cases h : (6 : Int) < (ns.length : Int)
    · exact ⟨6, by omega, by rw [if_pos h]; rfl⟩
    · rw [if_neg h]
      by_cases h2 : (ns.length : Int) > 1
      · exact ⟨ns.length, by omega, by rw [if_pos h2]⟩
      · exact ⟨1, by omega, by rw [if_neg h2]; rfl⟩
  rw [em, gRg_nat (show m < 2 ^ 62 by omega), rb_ok, forR_unit fun d md => by
    obtain ⟨k, _, rfl⟩ := List.mem_map.mp md
    exact loop24 ns k]
  rfl
theorem law_true (ns : List Int) : f_law_k24 ns [] = .ok (.bool true) := (e_law_k24 ns).trans (law24 ns)
end
end LW

set_option Elab.async false
set_option linter.all false
set_option maxRecDepth 100000
set_option maxHeartbeats 4000000
namespace LW
open PySem PySem.Spec PyProof.Rows L2 VS
def topS (i : Nat) : Stmt := PySem.Challenge.pw_twinriddles_k24_whole_turnings.main.body.getD i (.Pass ⟨0, 0, 0, 0⟩)
structure Txt (K : PySem.W.Frag) (mg : Str → Option Value) : Prop where
  n_abs : mg "abs" = none
  n_all : mg "all" = none
  n_any : mg "any" = none
  n_bool : mg "bool" = none
  n_enumerate : mg "enumerate" = none
  n_int : mg "int" = none
  n_isinstance : mg "isinstance" = none
  n_len : mg "len" = none
  n_list : mg "list" = none
  n_max : mg "max" = none
  n_min : mg "min" = none
  n_range : mg "range" = none
  n_sorted : mg "sorted" = none
  n_tuple : mg "tuple" = none
  n_zip : mg "zip" = none
  c_MOST_NAMES : ∃ t, mg "MOST_NAMES" = some (.int (5) t)
  c_MOST_CLAUSES : ∃ t, mg "MOST_CLAUSES" = some (.int (30) t)
  x_NoTurning : XcF K mg "NoTurning"
section
variable {P : Program} {w : World} {K : PySem.W.Frag} {mg : Str → Option Value} {base : Heap}
abbrev s_is_whole : Stmt := topS 6
theorem sc_is_whole : FnScope ["thing"] ["thing"] (defScope s_is_whole) := ⟨rfl, rfl, rfl, by decide +kernel, rfl, by decide +kernel, by decide +kernel⟩
theorem d_is_whole (T : Txt K mg)  {fa : Addr} {fd : FuncData} (F : FnP K "is_whole" s_is_whole fa fd) (gm : mg "is_whole" = some (.ref fa)) : DefV P w K mg base 1 "is_whole" 1 f_is_whole :=
  ⟨fa, fd, ["thing"], gm, F.kp, (F.bindsN (ps := ["thing"]) fun _ _ _ _ _ _ us hl => match us, hl with | [_], _ => rfl), fn_V (k := 0) F sc_is_whole (fun cdv A outer s H E c =>
  (mss_one (ms_retC (.inl rfl) (m_and (m_isi (T := "int") (by decide) T.n_isinstance T.n_int (m_nm 0)) (m_one (m_not (m_isi (T := "bool") (by decide) T.n_isinstance T.n_bool (m_nm 0))))))))⟩

abbrev s_is_between : Stmt := topS 7
theorem sc_is_between : FnScope ["thing", "least", "most"] ["thing", "least", "most"] (defScope s_is_between) := ⟨rfl, rfl, rfl, by decide +kernel, rfl, by decide +kernel, by decide +kernel⟩
theorem d_is_between (T : Txt K mg) (G_is_whole : DefV P w K mg base 1 "is_whole" 1 f_is_whole) {fa : Addr} {fd : FuncData} (F : FnP K "is_between" s_is_between fa fd) (gm : mg "is_between" = some (.ref fa)) : DefV P w K mg base 2 "is_between" 3 f_is_between :=
  ⟨fa, fd, ["thing", "least", "most"], gm, F.kp, (F.bindsN (ps := ["thing", "least", "most"]) fun _ _ _ _ _ _ us hl => match us, hl with | [_, _, _], _ => rfl), fn_V (k := 1) F sc_is_between (fun cdv A outer s H E c =>
  (mss_one (ms_retC (.inl rfl) (m_and (mv_call G_is_whole c (by decide) (an_cons (m_var 0 (.inl rfl)) an_nil)) (m_one (m_chain (o_le c.units0) (o_le c.units0) (m_nm 1) (m_nm 0) (m_nm 2)))))))⟩

abbrev s_is_clause : Stmt := topS 8
theorem sc_is_clause : FnScope ["names", "thing", "heads", "sign", "one", "other"] ["names", "thing"] (defScope s_is_clause) := ⟨rfl, rfl, rfl, by decide +kernel, rfl, by decide +kernel, by decide +kernel⟩
theorem d_is_clause (T : Txt K mg) (G_is_between : DefV P w K mg base 2 "is_between" 3 f_is_between) {fa : Addr} {fd : FuncData} (F : FnP K "is_clause" s_is_clause fa fd) (gm : mg "is_clause" = some (.ref fa)) : DefV P w K mg base 3 "is_clause" 2 f_is_clause :=
  ⟨fa, fd, ["names", "thing"], gm, F.kp, (F.bindsN (ps := ["names", "thing"]) fun _ _ _ _ _ _ us hl => match us, hl with | [_, _], _ => rfl), fn_V (k := 2) F sc_is_clause (fun cdv A outer s H E c =>
  (mss_cons (ms_if (PW.pt (mt_or (mt_not (mt_val (m_isi (T := "tuple") (by decide) T.n_isinstance T.n_tuple (m_nm 1)))) (pw_or1 (mt_cmp (o_eq c.units) (m_nm 1) (m_vl (m_tup (k := 0) ma_nil)) (nomark _))))) (mss_one (ms_retC (.inl rfl) m_bl)) mss_nil) (mss_cons (ms_if (mt_not (mt_val (m_callB1 (f_all c.calm) T.n_all (m_vl (m_frz (m_lcO (own := [("sign", 3)]) (fun _ _ _ => setV_exc) (by decide) (fun _ _ => .inl rfl) c.calm c.nd (mi_seq (m_var 1 (.inl rfl))) (blkOk_by (by kernel_rfl)) (fun s1 H1 L1 cl1 fp1 => (mg_name 3 (.inl rfl) (c.blk s1 H1 _ _ fp1).nd)) (fun s1 H1 L1 cl1 fp1 => mts_nil) (fun s1 H1 L1 cl1 fp1 => (m_and (mv_call G_is_between (c.blk s1 H1 _ _ fp1) (by decide) (an_cons (m_var 3 (.inl rfl)) (an_cons (m_neg (m_nm 0)) (an_cons (m_var 0 (.inl rfl)) an_nil)))) (m_one (m_cmp (o_ne (c.blk s1 H1 _ _ fp1).units) (m_nm 3) (m_vl m_int) (nomark _))))))))))) (mss_one (ms_retC (.inl rfl) m_bl)) mss_nil) (mss_cons (ms_lc 2 (.inl rfl) (own := [("sign", 3)]) (fun _ _ _ => setV_exc) (by decide) (fun _ _ => .inl rfl) c.calm c.nd (mi_seq (m_var 1 (.inl rfl))) (blkOk_by (by kernel_rfl)) (fun s2 H2 L2 cl2 fp2 => (mg_name 3 (.inl rfl) (c.blk s2 H2 _ _ fp2).nd)) (fun s2 H2 L2 cl2 fp2 => mts_nil) (fun s2 H2 L2 cl2 fp2 => (m_callB1 f_abs T.n_abs (m_nm 3)))) (mss_pre (fz := [2]) (wp := []) (mss_one (ms_retC (.inl rfl) (m_callB1 (f_all c.calm) T.n_all (m_vl (m_frz (m_lcO (own := [("one", 4), ("other", 5)]) (fun _ _ _ => bdT_exc) (by decide) (fun _ _ => .inl rfl) c.calm c.nd (mi_zip T.n_zip (m_var 2 (.inl rfl)) (m_sl (m_nm 2) (mp_so (m_vl m_int)) mp_no)) (blkOk_by (by kernel_rfl)) (fun s3 H3 L3 cl3 fp3 => (mg_tup (k := 0) (c.blk s3 H3 _ _ fp3).calm (mgs_cons (mg_name 4 (.inl rfl) (c.blk s3 H3 _ _ fp3).nd) (mgs_cons (mg_name 5 (.inl rfl) (c.blk s3 H3 _ _ fp3).nd) mgs_nil)))) (fun s3 H3 L3 cl3 fp3 => mts_nil) (fun s3 H3 L3 cl3 fp3 => (m_cmp (o_lt (c.blk s3 H3 _ _ fp3).units0) (m_nm 4) (m_nm 5) (nomark _))))))))) (.inl rfl))))))⟩

abbrev s_is_riddle : Stmt := topS 9
theorem sc_is_riddle : FnScope ["thing", "names", "clauses", "clause", "one", "other"] ["thing"] (defScope s_is_riddle) := ⟨rfl, rfl, rfl, by decide +kernel, rfl, by decide +kernel, by decide +kernel⟩
theorem d_is_riddle (T : Txt K mg) (G_is_between : DefV P w K mg base 2 "is_between" 3 f_is_between) (G_is_clause : DefV P w K mg base 3 "is_clause" 2 f_is_clause) {fa : Addr} {fd : FuncData} (F : FnP K "is_riddle" s_is_riddle fa fd) (gm : mg "is_riddle" = some (.ref fa)) : DefV P w K mg base 4 "is_riddle" 1 f_is_riddle :=
  ⟨fa, fd, ["thing"], gm, F.kp, (F.bindsN (ps := ["thing"]) fun _ _ _ _ _ _ us hl => match us, hl with | [_], _ => rfl), fn_V (k := 3) F sc_is_riddle (fun cdv A outer s H E c =>
  (mss_cons (ms_if (PW.pt (mt_or (mt_not (mt_val (m_isi (T := "tuple") (by decide) T.n_isinstance T.n_tuple (m_nm 0)))) (mt_or (mt_cmp (o_ne c.units) (m_vl (m_callB1 f_len T.n_len (m_nm 0))) (m_vl m_int) (nomark _)) (pw_or1 (mt_not (mt_val (mv_call G_is_between c (by decide) (an_cons (m_ix (m_nm 0) (m_vl m_int)) (an_cons m_int (an_cons (mg_int T.c_MOST_NAMES) an_nil)))))))))) (mss_one (ms_retC (.inl rfl) m_bl)) mss_nil) (mss_cons (ms_asg (m_var 0 (.inl rfl)) (mg_tup (k := 0) c.calm (mgs_cons (mg_name 1 (.inl rfl) c.nd) (mgs_cons (mg_name 2 (.inl rfl) c.nd) mgs_nil)))) (mss_cons (ms_if (PW.pt (mt_or (mt_not (mt_val (m_isi (T := "tuple") (by decide) T.n_isinstance T.n_tuple (m_nm 2)))) (pw_or1 (mt_cmp o_gt (m_vl (m_callB1 f_len T.n_len (m_nm 2))) (m_vl (mg_int T.c_MOST_CLAUSES)) (nomark _))))) (mss_one (ms_retC (.inl rfl) m_bl)) mss_nil) (mss_cons (ms_if (mt_not (mt_val (m_callB1 (f_all c.calm) T.n_all (m_vl (m_frz (m_lcO (own := [("clause", 3)]) (fun _ _ _ => setV_exc) (by decide) (fun _ _ => .inl rfl) c.calm c.nd (mi_seq (m_var 2 (.inl rfl))) (blkOk_by (by kernel_rfl)) (fun s1 H1 L1 cl1 fp1 => (mg_name 3 (.inl rfl) (c.blk s1 H1 _ _ fp1).nd)) (fun s1 H1 L1 cl1 fp1 => mts_nil) (fun s1 H1 L1 cl1 fp1 => (mv_call G_is_clause (c.blk s1 H1 _ _ fp1) (by decide) (an_cons (m_var 1 (.inl rfl)) (an_cons (m_var 3 (.inl rfl)) an_nil)))))))))) (mss_one (ms_retC (.inl rfl) m_bl)) mss_nil) (mss_one (ms_retC (.inl rfl) (m_callB1 (f_all c.calm) T.n_all (m_vl (m_frz (m_lcO (own := [("one", 4), ("other", 5)]) (fun _ _ _ => bdT_exc) (by decide) (fun _ _ => .inl rfl) c.calm c.nd (mi_zip T.n_zip (m_var 2 (.inl rfl)) (m_sl (m_nm 2) (mp_so (m_vl m_int)) mp_no)) (blkOk_by (by kernel_rfl)) (fun s2 H2 L2 cl2 fp2 => (mg_tup (k := 0) (c.blk s2 H2 _ _ fp2).calm (mgs_cons (mg_name 4 (.inl rfl) (c.blk s2 H2 _ _ fp2).nd) (mgs_cons (mg_name 5 (.inl rfl) (c.blk s2 H2 _ _ fp2).nd) mgs_nil)))) (fun s2 H2 L2 cl2 fp2 => mts_nil) (fun s2 H2 L2 cl2 fp2 => (m_cmp (o_lt (c.blk s2 H2 _ _ fp2).units0) (m_nm 4) (m_nm 5) (nomark _))))))))))))))⟩

abbrev s_is_so : Stmt := topS 10
theorem sc_is_so : FnScope ["sign", "answer"] ["sign", "answer"] (defScope s_is_so) := ⟨rfl, rfl, rfl, by decide +kernel, rfl, by decide +kernel, by decide +kernel⟩
theorem d_is_so (T : Txt K mg)  {fa : Addr} {fd : FuncData} (F : FnP K "is_so" s_is_so fa fd) (gm : mg "is_so" = some (.ref fa)) : DefV P w K mg base 1 "is_so" 2 f_is_so :=
  ⟨fa, fd, ["sign", "answer"], gm, F.kp, (F.bindsN (ps := ["sign", "answer"]) fun _ _ _ _ _ _ us hl => match us, hl with | [_, _], _ => rfl), fn_V (k := 0) F sc_is_so (fun cdv A outer s H E c =>
  (mss_one (ms_retC (.inl rfl) (m_cmp (o_eq c.units) (m_vl (m_ix (m_nm 1) (m_vl (m_op o_sub (m_vl (m_callB1 f_abs T.n_abs (m_nm 0))) (m_vl m_int))))) (m_vl (m_callT1 f_int T.n_int (m_vl (m_cmp o_gt (m_nm 0) (m_vl m_int) (nomark _))))) (nomark _)))))⟩

abbrev s_keeps_clause : Stmt := topS 11
theorem sc_keeps_clause : FnScope ["answer", "clause", "sign"] ["answer", "clause"] (defScope s_keeps_clause) := ⟨rfl, rfl, rfl, by decide +kernel, rfl, by decide +kernel, by decide +kernel⟩
theorem d_keeps_clause (T : Txt K mg) (G_is_so : DefV P w K mg base 1 "is_so" 2 f_is_so) {fa : Addr} {fd : FuncData} (F : FnP K "keeps_clause" s_keeps_clause fa fd) (gm : mg "keeps_clause" = some (.ref fa)) : DefV P w K mg base 2 "keeps_clause" 2 f_keeps_clause :=
  ⟨fa, fd, ["answer", "clause"], gm, F.kp, (F.bindsN (ps := ["answer", "clause"]) fun _ _ _ _ _ _ us hl => match us, hl with | [_, _], _ => rfl), fn_V (k := 1) F sc_keeps_clause (fun cdv A outer s H E c =>
  (mss_one (ms_retC (.inl rfl) (m_callB1 (f_any c.calm) T.n_any (m_vl (m_frz (m_lcO (own := [("sign", 2)]) (fun _ _ _ => setV_exc) (by decide) (fun _ _ => .inl rfl) c.calm c.nd (mi_seq (m_var 1 (.inl rfl))) (blkOk_by (by kernel_rfl)) (fun s1 H1 L1 cl1 fp1 => (mg_name 2 (.inl rfl) (c.blk s1 H1 _ _ fp1).nd)) (fun s1 H1 L1 cl1 fp1 => mts_nil) (fun s1 H1 L1 cl1 fp1 => (mv_call G_is_so (c.blk s1 H1 _ _ fp1) (by decide) (an_cons (m_var 2 (.inl rfl)) (an_cons (m_var 0 (.inl rfl)) an_nil)))))))))))⟩

abbrev s_is_answer : Stmt := topS 12
theorem sc_is_answer : FnScope ["names", "thing", "bit"] ["names", "thing"] (defScope s_is_answer) := ⟨rfl, rfl, rfl, by decide +kernel, rfl, by decide +kernel, by decide +kernel⟩
theorem d_is_answer (T : Txt K mg) (G_is_between : DefV P w K mg base 2 "is_between" 3 f_is_between) {fa : Addr} {fd : FuncData} (F : FnP K "is_answer" s_is_answer fa fd) (gm : mg "is_answer" = some (.ref fa)) : DefV P w K mg base 3 "is_answer" 2 f_is_answer :=
  ⟨fa, fd, ["names", "thing"], gm, F.kp, (F.bindsN (ps := ["names", "thing"]) fun _ _ _ _ _ _ us hl => match us, hl with | [_, _], _ => rfl), fn_V (k := 2) F sc_is_answer (fun cdv A outer s H E c =>
  (mss_one (ms_retC (.inl rfl) (m_and (m_isi (T := "tuple") (by decide) T.n_isinstance T.n_tuple (m_nm 1)) (m_and (m_cmp (o_eq c.units) (m_vl (m_callB1 f_len T.n_len (m_nm 1))) (m_nm 0) (nomark _)) (m_one (m_callB1 (f_all c.calm) T.n_all (m_vl (m_frz (m_lcO (own := [("bit", 2)]) (fun _ _ _ => setV_exc) (by decide) (fun _ _ => .inl rfl) c.calm c.nd (mi_seq (m_var 1 (.inl rfl))) (blkOk_by (by kernel_rfl)) (fun s1 H1 L1 cl1 fp1 => (mg_name 2 (.inl rfl) (c.blk s1 H1 _ _ fp1).nd)) (fun s1 H1 L1 cl1 fp1 => mts_nil) (fun s1 H1 L1 cl1 fp1 => (mv_call G_is_between (c.blk s1 H1 _ _ fp1) (by decide) (an_cons (m_var 2 (.inl rfl)) (an_cons m_int (an_cons m_int an_nil)))))))))))))))⟩

abbrev s_keeps : Stmt := topS 13
theorem sc_keeps : FnScope ["riddle", "thing", "clause"] ["riddle", "thing"] (defScope s_keeps) := ⟨rfl, rfl, rfl, by decide +kernel, rfl, by decide +kernel, by decide +kernel⟩
theorem d_keeps (T : Txt K mg) (G_is_answer : DefV P w K mg base 3 "is_answer" 2 f_is_answer) (G_keeps_clause : DefV P w K mg base 2 "keeps_clause" 2 f_keeps_clause) {fa : Addr} {fd : FuncData} (F : FnP K "keeps" s_keeps fa fd) (gm : mg "keeps" = some (.ref fa)) : DefV P w K mg base 4 "keeps" 2 f_keeps :=
  ⟨fa, fd, ["riddle", "thing"], gm, F.kp, (F.bindsN (ps := ["riddle", "thing"]) fun _ _ _ _ _ _ us hl => match us, hl with | [_, _], _ => rfl), fn_V (k := 3) F sc_keeps (fun cdv A outer s H E c =>
  (mss_cons (ms_if (mt_not (mt_val (mv_call G_is_answer c (by decide) (an_cons (m_ix (m_nm 0) (m_vl m_int)) (an_cons (m_var 1 (.inl rfl)) an_nil))))) (mss_one (ms_retC (.inl rfl) m_bl)) mss_nil) (mss_one (ms_retC (.inl rfl) (m_callB1 (f_all c.calm) T.n_all (m_vl (m_frz (m_lcO (own := [("clause", 2)]) (fun _ _ _ => setV_exc) (by decide) (fun _ _ => .inl rfl) c.calm c.nd (mi_seq (m_ix (m_nm 0) (m_vl m_int))) (blkOk_by (by kernel_rfl)) (fun s1 H1 L1 cl1 fp1 => (mg_name 2 (.inl rfl) (c.blk s1 H1 _ _ fp1).nd)) (fun s1 H1 L1 cl1 fp1 => mts_nil) (fun s1 H1 L1 cl1 fp1 => (mv_call G_keeps_clause (c.blk s1 H1 _ _ fp1) (by decide) (an_cons (m_var 1 (.inl rfl)) (an_cons (m_var 2 (.inl rfl)) an_nil))))))))))))⟩

abbrev s_all_answers : Stmt := topS 14
theorem sc_all_answers : FnScope ["names", "found", "place", "longer", "begun", "bit"] ["names"] (defScope s_all_answers) := ⟨rfl, rfl, rfl, by decide +kernel, rfl, by decide +kernel, by decide +kernel⟩
theorem d_all_answers (T : Txt K mg)  {fa : Addr} {fd : FuncData} (F : FnP K "all_answers" s_all_answers fa fd) (gm : mg "all_answers" = some (.ref fa)) : DefV P w K mg base 1 "all_answers" 1 f_all_answers :=
  ⟨fa, fd, ["names"], gm, F.kp, (F.bindsN (ps := ["names"]) fun _ _ _ _ _ _ us hl => match us, hl with | [_], _ => rfl), fn_V (k := 0) F sc_all_answers (fun cdv A outer s H E c =>
  (mss_cons (ms_set 1 (.inl rfl) c.nd (m_frz (m_lstO (ma_cons (m_tup (k := 0) ma_nil) ma_nil)))) (mss_cons (ms_for (fun _ _ _ => setV_exc) c.own c.calm (mi_rg1 T.n_range (m_nm 0)) (mg_name 2 (.inl rfl) c.nd) (mss_cons (ms_setO 3 (.inl rfl) c.nd (m_lstO ma_nil)) (mss_cons (ms_for (fun _ _ _ => setV_exc) c.own c.calm (mi_seq (m_var 1 (.inl rfl))) (mg_name 4 (.inl rfl) c.nd) (mss_cons (ms_ext 3 (m_frz (m_lcO (own := [("bit", 5)]) (fun _ _ _ => setV_exc) (by decide) (fun _ _ => .inl rfl) c.calm c.nd (mi_seq (m_tup (k := 0) (ma_cons m_int (ma_cons m_int ma_nil)))) (blkOk_by (by kernel_rfl)) (fun s1 H1 L1 cl1 fp1 => (mg_name 5 (.inl rfl) (c.blk s1 H1 _ _ fp1).nd)) (fun s1 H1 L1 cl1 fp1 => mts_nil) (fun s1 H1 L1 cl1 fp1 => (m_op o_addL (m_nm 4) (m_vl (m_tup (k := 0) (ma_cons (m_var 5 (.inl rfl)) ma_nil)))))))) (mss_pre (fz := []) (wp := [4]) mss_nil (.inl rfl)))) (mss_pre (fz := [3]) (wp := []) (mss_cons (ms_set 1 (.inl rfl) c.nd (m_var 3 (.inl rfl))) (mss_pre (fz := []) (wp := [2, 3]) mss_nil (.inl rfl))) (.inl rfl))))) (mss_one (ms_retC (.inl rfl) (m_var 1 (.inl rfl)))))))⟩

abbrev s_answers : Stmt := topS 15
theorem sc_answers : FnScope ["riddle", "answer"] ["riddle"] (defScope s_answers) := ⟨rfl, rfl, rfl, by decide +kernel, rfl, by decide +kernel, by decide +kernel⟩
theorem d_answers (T : Txt K mg) (G_all_answers : DefV P w K mg base 1 "all_answers" 1 f_all_answers) (G_keeps : DefV P w K mg base 4 "keeps" 2 f_keeps) {fa : Addr} {fd : FuncData} (F : FnP K "answers" s_answers fa fd) (gm : mg "answers" = some (.ref fa)) : DefV P w K mg base 5 "answers" 1 f_answers_w2 :=
  ⟨fa, fd, ["riddle"], gm, F.kp, (F.bindsN (ps := ["riddle"]) fun _ _ _ _ _ _ us hl => match us, hl with | [_], _ => rfl), fn_V (k := 4) F sc_answers (fun cdv A outer s H E c =>
  (mss_one (ms_retC (.inl rfl) (m_frz (m_lcO (own := [("answer", 1)]) (fun _ _ _ => setV_exc) (by decide) (fun _ _ => .inl rfl) c.calm c.nd (mi_seq (mv_call G_all_answers c (by decide) (an_cons (m_ix (m_nm 0) (m_vl m_int)) an_nil))) (blkOk_by (by kernel_rfl)) (fun s1 H1 L1 cl1 fp1 => (mg_name 1 (.inl rfl) (c.blk s1 H1 _ _ fp1).nd)) (fun s1 H1 L1 cl1 fp1 => (mts_one (mt_val (mv_call G_keeps (c.blk s1 H1 _ _ fp1) (by decide) (an_cons (m_var 0 (.inl rfl)) (an_cons (m_var 1 (.inl rfl)) an_nil)))))) (fun s1 H1 L1 cl1 fp1 => (m_var 1 (.inl rfl))))))))⟩

abbrev s_is_turning : Stmt := topS 17
theorem sc_is_turning : FnScope ["names", "thing", "one"] ["names", "thing"] (defScope s_is_turning) := ⟨rfl, rfl, rfl, by decide +kernel, rfl, by decide +kernel, by decide +kernel⟩
theorem d_is_turning (T : Txt K mg) (G_is_whole : DefV P w K mg base 1 "is_whole" 1 f_is_whole) {fa : Addr} {fd : FuncData} (F : FnP K "is_turning" s_is_turning fa fd) (gm : mg "is_turning" = some (.ref fa)) : DefV P w K mg base 2 "is_turning" 2 f_is_turning :=
  ⟨fa, fd, ["names", "thing"], gm, F.kp, (F.bindsN (ps := ["names", "thing"]) fun _ _ _ _ _ _ us hl => match us, hl with | [_, _], _ => rfl), fn_V (k := 1) F sc_is_turning (fun cdv A outer s H E c =>
  (mss_cons (ms_if (PW.pt (mt_or (mt_not (mt_val (m_isi (T := "tuple") (by decide) T.n_isinstance T.n_tuple (m_nm 1)))) (mt_or (mt_cmp (o_ne c.units) (m_vl (m_callB1 f_len T.n_len (m_nm 1))) (m_nm 0) (nomark _)) (pw_or1 (mt_not (mt_val (m_callB1 (f_all c.calm) T.n_all (m_vl (m_frz (m_lcO (own := [("one", 2)]) (fun _ _ _ => setV_exc) (by decide) (fun _ _ => .inl rfl) c.calm c.nd (mi_seq (m_var 1 (.inl rfl))) (blkOk_by (by kernel_rfl)) (fun s1 H1 L1 cl1 fp1 => (mg_name 2 (.inl rfl) (c.blk s1 H1 _ _ fp1).nd)) (fun s1 H1 L1 cl1 fp1 => mts_nil) (fun s1 H1 L1 cl1 fp1 => (mv_call G_is_whole (c.blk s1 H1 _ _ fp1) (by decide) (an_cons (m_var 2 (.inl rfl)) an_nil))))))))))))) (mss_one (ms_retC (.inl rfl) m_bl)) mss_nil) (mss_one (ms_retC (.inl rfl) (m_cmp (o_eq c.units) (m_vl (m_frz (m_callB1O f_sorted2 T.n_sorted (m_vl (m_frz (m_lcO (own := [("one", 2)]) (fun _ _ _ => setV_exc) (by decide) (fun _ _ => .inl rfl) c.calm c.nd (mi_seq (m_var 1 (.inl rfl))) (blkOk_by (by kernel_rfl)) (fun s2 H2 L2 cl2 fp2 => (mg_name 2 (.inl rfl) (c.blk s2 H2 _ _ fp2).nd)) (fun s2 H2 L2 cl2 fp2 => mts_nil) (fun s2 H2 L2 cl2 fp2 => (m_callB1 f_abs T.n_abs (m_nm 2))))))))) (m_vl (m_frz (m_listRg c.calm T.n_list (rg2 T.n_range (m_vl m_int) (m_vl (m_op o_addL (m_nm 0) (m_vl m_int))))))) (nomark _))))))⟩

abbrev s_need_turning : Stmt := topS 18
theorem sc_need_turning : FnScope ["names", "thing"] ["names", "thing"] (defScope s_need_turning) := ⟨rfl, rfl, rfl, by decide +kernel, rfl, by decide +kernel, by decide +kernel⟩
theorem d_need_turning (T : Txt K mg) (G_is_turning : DefV P w K mg base 2 "is_turning" 2 f_is_turning) {fa : Addr} {fd : FuncData} (F : FnP K "need_turning" s_need_turning fa fd) (gm : mg "need_turning" = some (.ref fa)) : DefV P w K mg base 3 "need_turning" 2 f_need_turning :=
  ⟨fa, fd, ["names", "thing"], gm, F.kp, (F.bindsN (ps := ["names", "thing"]) fun _ _ _ _ _ _ us hl => match us, hl with | [_, _], _ => rfl), fn_V (k := 2) F sc_need_turning (fun cdv A outer s H E c =>
  (mss_one (ms_if (mt_not (mt_val (mv_call G_is_turning c (by decide) (an_cons (m_var 0 (.inl rfl)) (an_cons (m_var 1 (.inl rfl)) an_nil))))) (mss_one (ms_raiseX T.x_NoTurning)) mss_nil)))⟩

abbrev s_led_sign : Stmt := topS 19
theorem sc_led_sign : FnScope ["turning", "sign"] ["turning", "sign"] (defScope s_led_sign) := ⟨rfl, rfl, rfl, by decide +kernel, rfl, by decide +kernel, by decide +kernel⟩
theorem d_led_sign (T : Txt K mg)  {fa : Addr} {fd : FuncData} (F : FnP K "led_sign" s_led_sign fa fd) (gm : mg "led_sign" = some (.ref fa)) : DefV P w K mg base 1 "led_sign" 2 f_led_sign :=
  ⟨fa, fd, ["turning", "sign"], gm, F.kp, (F.bindsN (ps := ["turning", "sign"]) fun _ _ _ _ _ _ us hl => match us, hl with | [_, _], _ => rfl), fn_V (k := 0) F sc_led_sign (fun cdv A outer s H E c =>
  (mss_cons (ms_if (mt_cmp o_gt (m_nm 1) (m_vl m_int) (nomark _)) (mss_one (ms_retC (.inl rfl) (m_ix (m_nm 0) (m_vl (m_op o_sub (m_nm 1) (m_vl m_int)))))) mss_nil) (mss_one (ms_retC (.inl rfl) (m_op o_sub (m_vl m_int) (m_vl (m_ix (m_nm 0) (m_vl (m_op o_sub (m_vl (m_op o_sub (m_vl m_int) (m_nm 1))) (m_vl m_int))))))))))⟩

abbrev s_led_clause : Stmt := topS 20
theorem sc_led_clause : FnScope ["clause", "turning", "sign"] ["clause", "turning"] (defScope s_led_clause) := ⟨rfl, rfl, rfl, by decide +kernel, rfl, by decide +kernel, by decide +kernel⟩
theorem d_led_clause (T : Txt K mg) (G_led_sign : DefV P w K mg base 1 "led_sign" 2 f_led_sign) {fa : Addr} {fd : FuncData} (F : FnP K "led_clause" s_led_clause fa fd) (gm : mg "led_clause" = some (.ref fa)) : DefV P w K mg base 2 "led_clause" 2 f_led_clause :=
  ⟨fa, fd, ["clause", "turning"], gm, F.kp, (F.bindsN (ps := ["clause", "turning"]) fun _ _ _ _ _ _ us hl => match us, hl with | [_, _], _ => rfl), fn_V (k := 1) F sc_led_clause (fun cdv A outer s H E c =>
  (mss_one (ms_retC (.inl rfl) (m_callT1 f_tuple T.n_tuple (m_vl (m_frz (m_sortAbsO c T.n_sorted T.n_abs (m_vl (m_frz (m_lcO (own := [("sign", 2)]) (fun _ _ _ => setV_exc) (by decide) (fun _ _ => .inl rfl) c.calm c.nd (mi_seq (m_var 0 (.inl rfl))) (blkOk_by (by kernel_rfl)) (fun s1 H1 L1 cl1 fp1 => (mg_name 2 (.inl rfl) (c.blk s1 H1 _ _ fp1).nd)) (fun s1 H1 L1 cl1 fp1 => mts_nil) (fun s1 H1 L1 cl1 fp1 => (mv_call G_led_sign (c.blk s1 H1 _ _ fp1) (by decide) (an_cons (m_var 1 (.inl rfl)) (an_cons (m_var 2 (.inl rfl)) an_nil))))))))))))))⟩

abbrev s_led_riddle : Stmt := topS 21
theorem sc_led_riddle : FnScope ["riddle", "turning", "clause"] ["riddle", "turning"] (defScope s_led_riddle) := ⟨rfl, rfl, rfl, by decide +kernel, rfl, by decide +kernel, by decide +kernel⟩
theorem d_led_riddle (T : Txt K mg) (G_led_clause : DefV P w K mg base 2 "led_clause" 2 f_led_clause) {fa : Addr} {fd : FuncData} (F : FnP K "led_riddle" s_led_riddle fa fd) (gm : mg "led_riddle" = some (.ref fa)) : DefV P w K mg base 3 "led_riddle" 2 f_led_riddle :=
  ⟨fa, fd, ["riddle", "turning"], gm, F.kp, (F.bindsN (ps := ["riddle", "turning"]) fun _ _ _ _ _ _ us hl => match us, hl with | [_, _], _ => rfl), fn_V (k := 2) F sc_led_riddle (fun cdv A outer s H E c =>
  (mss_one (ms_retC (.inl rfl) (m_tup (k := 0) (ma_cons (m_ix (m_nm 0) (m_vl m_int)) (ma_cons (m_callT1 f_tuple T.n_tuple (m_vl (m_frz (m_callB1O f_sorted2 T.n_sorted (m_vl (m_frz (m_lcO (own := [("clause", 2)]) (fun _ _ _ => setV_exc) (by decide) (fun _ _ => .inl rfl) c.calm c.nd (mi_seq (m_ix (m_nm 0) (m_vl m_int))) (blkOk_by (by kernel_rfl)) (fun s1 H1 L1 cl1 fp1 => (mg_name 2 (.inl rfl) (c.blk s1 H1 _ _ fp1).nd)) (fun s1 H1 L1 cl1 fp1 => mts_nil) (fun s1 H1 L1 cl1 fp1 => (mv_call G_led_clause (c.blk s1 H1 _ _ fp1) (by decide) (an_cons (m_var 2 (.inl rfl)) (an_cons (m_var 1 (.inl rfl)) an_nil))))))))))) ma_nil))))))⟩

abbrev s_led : Stmt := topS 22
theorem sc_led : FnScope ["riddle", "turning"] ["riddle", "turning"] (defScope s_led) := ⟨rfl, rfl, rfl, by decide +kernel, rfl, by decide +kernel, by decide +kernel⟩
theorem d_led (T : Txt K mg) (G_need_turning : DefV P w K mg base 3 "need_turning" 2 f_need_turning) (G_led_riddle : DefV P w K mg base 3 "led_riddle" 2 f_led_riddle) {fa : Addr} {fd : FuncData} (F : FnP K "led" s_led fa fd) (gm : mg "led" = some (.ref fa)) : DefV P w K mg base 4 "led" 2 f_led :=
  ⟨fa, fd, ["riddle", "turning"], gm, F.kp, (F.bindsN (ps := ["riddle", "turning"]) fun _ _ _ _ _ _ us hl => match us, hl with | [_, _], _ => rfl), fn_V (k := 3) F sc_led (fun cdv A outer s H E c =>
  (mss_cons (ms_do (mv_call G_need_turning c (by decide) (an_cons (m_ix (m_nm 0) (m_vl m_int)) (an_cons (m_var 1 (.inl rfl)) an_nil)))) (mss_one (ms_retC (.inl rfl) (mv_call G_led_riddle c (by decide) (an_cons (m_var 0 (.inl rfl)) (an_cons (m_var 1 (.inl rfl)) an_nil)))))))⟩

abbrev s_led_bits : Stmt := topS 23
theorem sc_led_bits : FnScope ["answer", "turning", "found", "bit", "sign"] ["answer", "turning"] (defScope s_led_bits) := ⟨rfl, rfl, rfl, by decide +kernel, rfl, by decide +kernel, by decide +kernel⟩
theorem d_led_bits (T : Txt K mg)  {fa : Addr} {fd : FuncData} (F : FnP K "led_bits" s_led_bits fa fd) (gm : mg "led_bits" = some (.ref fa)) : DefV P w K mg base 1 "led_bits" 2 f_led_bits :=
  ⟨fa, fd, ["answer", "turning"], gm, F.kp, (F.bindsN (ps := ["answer", "turning"]) fun _ _ _ _ _ _ us hl => match us, hl with | [_, _], _ => rfl), fn_V (k := 0) F sc_led_bits (fun cdv A outer s H E c =>
  (mss_cons (ms_setO 2 (.inl rfl) c.nd (m_opO o_repO (m_vl (m_frz (m_lstO (ma_cons m_int ma_nil)))) (m_vl (m_callB1 f_len T.n_len (m_nm 0))))) (mss_cons (ms_for (fun _ _ _ => bdT_exc) c.own c.calm (mi_zip T.n_zip (m_var 0 (.inl rfl)) (m_var 1 (.inl rfl))) (mg_tup (k := 0) c.calm (mgs_cons (mg_name 3 (.inl rfl) c.nd) (mgs_cons (mg_name 4 (.inl rfl) c.nd) mgs_nil))) (mss_cons (ms_setIx 2 (m_if (mt_cmp o_gt (m_nm 4) (m_vl m_int) (nomark _)) (m_var 3 (.inl rfl)) (m_op o_sub (m_vl m_int) (m_nm 3))) (m_vl (m_op o_sub (m_vl (m_callB1 f_abs T.n_abs (m_nm 4))) (m_vl m_int)))) (mss_pre (fz := []) (wp := [3, 4]) mss_nil (.inl rfl)))) (mss_one (ms_retC (.inl rfl) (m_callT1 f_tuple T.n_tuple (m_nm 2)))))))⟩

abbrev s_led_answer : Stmt := topS 24
theorem sc_led_answer : FnScope ["answer", "turning"] ["answer", "turning"] (defScope s_led_answer) := ⟨rfl, rfl, rfl, by decide +kernel, rfl, by decide +kernel, by decide +kernel⟩
theorem d_led_answer (T : Txt K mg) (G_need_turning : DefV P w K mg base 3 "need_turning" 2 f_need_turning) (G_led_bits : DefV P w K mg base 1 "led_bits" 2 f_led_bits) {fa : Addr} {fd : FuncData} (F : FnP K "led_answer" s_led_answer fa fd) (gm : mg "led_answer" = some (.ref fa)) : DefV P w K mg base 4 "led_answer" 2 f_led_answer :=
  ⟨fa, fd, ["answer", "turning"], gm, F.kp, (F.bindsN (ps := ["answer", "turning"]) fun _ _ _ _ _ _ us hl => match us, hl with | [_, _], _ => rfl), fn_V (k := 3) F sc_led_answer (fun cdv A outer s H E c =>
  (mss_cons (ms_do (mv_call G_need_turning c (by decide) (an_cons (m_callB1 f_len T.n_len (m_nm 0)) (an_cons (m_var 1 (.inl rfl)) an_nil)))) (mss_one (ms_retC (.inl rfl) (mv_call G_led_bits c (by decide) (an_cons (m_var 0 (.inl rfl)) (an_cons (m_var 1 (.inl rfl)) an_nil)))))))⟩

abbrev s_behind : Stmt := topS 25
theorem sc_behind : FnScope ["one", "other", "sign"] ["one", "other"] (defScope s_behind) := ⟨rfl, rfl, rfl, by decide +kernel, rfl, by decide +kernel, by decide +kernel⟩
theorem d_behind (T : Txt K mg) (G_led_sign : DefV P w K mg base 1 "led_sign" 2 f_led_sign) {fa : Addr} {fd : FuncData} (F : FnP K "behind" s_behind fa fd) (gm : mg "behind" = some (.ref fa)) : DefV P w K mg base 2 "behind" 2 f_behind :=
  ⟨fa, fd, ["one", "other"], gm, F.kp, (F.bindsN (ps := ["one", "other"]) fun _ _ _ _ _ _ us hl => match us, hl with | [_, _], _ => rfl), fn_V (k := 1) F sc_behind (fun cdv A outer s H E c =>
  (mss_one (ms_retC (.inl rfl) (m_callT1 f_tuple T.n_tuple (m_vl (m_frz (m_lcO (own := [("sign", 2)]) (fun _ _ _ => setV_exc) (by decide) (fun _ _ => .inl rfl) c.calm c.nd (mi_seq (m_var 0 (.inl rfl))) (blkOk_by (by kernel_rfl)) (fun s1 H1 L1 cl1 fp1 => (mg_name 2 (.inl rfl) (c.blk s1 H1 _ _ fp1).nd)) (fun s1 H1 L1 cl1 fp1 => mts_nil) (fun s1 H1 L1 cl1 fp1 => (mv_call G_led_sign (c.blk s1 H1 _ _ fp1) (by decide) (an_cons (m_var 1 (.inl rfl)) (an_cons (m_var 2 (.inl rfl)) an_nil)))))))))))⟩

abbrev s_back : Stmt := topS 26
theorem sc_back : FnScope ["turning", "found", "place", "sign"] ["turning"] (defScope s_back) := ⟨rfl, rfl, rfl, by decide +kernel, rfl, by decide +kernel, by decide +kernel⟩
theorem d_back (T : Txt K mg)  {fa : Addr} {fd : FuncData} (F : FnP K "back" s_back fa fd) (gm : mg "back" = some (.ref fa)) : DefV P w K mg base 1 "back" 1 f_back :=
  ⟨fa, fd, ["turning"], gm, F.kp, (F.bindsN (ps := ["turning"]) fun _ _ _ _ _ _ us hl => match us, hl with | [_], _ => rfl), fn_V (k := 0) F sc_back (fun cdv A outer s H E c =>
  (mss_cons (ms_setO 1 (.inl rfl) c.nd (m_opO o_repO (m_vl (m_frz (m_lstO (ma_cons m_int ma_nil)))) (m_vl (m_callB1 f_len T.n_len (m_nm 0))))) (mss_cons (ms_for (fun _ _ _ => bdT_exc) c.own c.calm (mi_enum T.n_enumerate (m_var 0 (.inl rfl))) (mg_tup (k := 0) c.calm (mgs_cons (mg_name 2 (.inl rfl) c.nd) (mgs_cons (mg_name 3 (.inl rfl) c.nd) mgs_nil))) (mss_cons (ms_setIx 1 (m_if (mt_cmp o_gt (m_nm 3) (m_vl m_int) (nomark _)) (m_op o_addL (m_nm 2) (m_vl m_int)) (m_op o_sub (m_vl (m_op o_sub (m_vl m_int) (m_nm 2))) (m_vl m_int))) (m_vl (m_op o_sub (m_vl (m_callB1 f_abs T.n_abs (m_nm 3))) (m_vl m_int)))) (mss_pre (fz := []) (wp := [2, 3]) mss_nil (.inl rfl)))) (mss_one (ms_retC (.inl rfl) (m_callT1 f_tuple T.n_tuple (m_nm 1)))))))⟩

abbrev s_still : Stmt := topS 27
theorem sc_still : FnScope ["names"] ["names"] (defScope s_still) := ⟨rfl, rfl, rfl, by decide +kernel, rfl, by decide +kernel, by decide +kernel⟩
theorem d_still (T : Txt K mg)  {fa : Addr} {fd : FuncData} (F : FnP K "still" s_still fa fd) (gm : mg "still" = some (.ref fa)) : DefV P w K mg base 1 "still" 1 f_still :=
  ⟨fa, fd, ["names"], gm, F.kp, (F.bindsN (ps := ["names"]) fun _ _ _ _ _ _ us hl => match us, hl with | [_], _ => rfl), fn_V (k := 0) F sc_still (fun cdv A outer s H E c =>
  (mss_one (ms_retC (.inl rfl) (m_tupRg c.calm T.n_tuple (rg2 T.n_range (m_vl m_int) (m_vl (m_op o_addL (m_nm 0) (m_vl m_int))))))))⟩

abbrev s_order_of : Stmt := topS 28
theorem sc_order_of : FnScope ["turning", "found", "here"] ["turning"] (defScope s_order_of) := ⟨rfl, rfl, rfl, by decide +kernel, rfl, by decide +kernel, by decide +kernel⟩
theorem d_order_of (T : Txt K mg) (G_still : DefV P w K mg base 1 "still" 1 f_still) (G_behind : DefV P w K mg base 2 "behind" 2 f_behind) {fa : Addr} {fd : FuncData} (F : FnP K "order_of" s_order_of fa fd) (gm : mg "order_of" = some (.ref fa)) : DefV P w K mg base 3 "order_of" 1 f_order_of :=
  ⟨fa, fd, ["turning"], gm, F.kp, (F.bindsN (ps := ["turning"]) fun _ _ _ _ _ _ us hl => match us, hl with | [_], _ => rfl), fn_V (k := 2) F sc_order_of (fun cdv A outer s H E c =>
  (mss_cons (ms_set 1 (.inl rfl) c.nd m_int) (mss_cons (ms_set 2 (.inl rfl) c.nd (m_var 0 (.inl rfl))) (mss_cons (ms_while fuel c.own (mt_cmp (o_ne c.units) (m_nm 2) (m_vl (mv_call G_still c (by decide) (an_cons (m_callB1 f_len T.n_len (m_nm 0)) an_nil))) (nomark _)) (mss_cons (ms_set 2 (.inl rfl) c.nd (mv_call G_behind c (by decide) (an_cons (m_var 2 (.inl rfl)) (an_cons (m_var 0 (.inl rfl)) an_nil)))) (mss_one (ms_set 1 (.inl rfl) c.nd (m_op o_addL (m_nm 1) (m_vl m_int)))))) (mss_one (ms_retC (.inl rfl) (m_var 1 (.inl rfl))))))))⟩

abbrev s__law_cell_at : Stmt := topS 30
theorem sc__law_cell_at : FnScope ["_law_script", "_law_k"] ["_law_script", "_law_k"] (defScope s__law_cell_at) := ⟨rfl, rfl, rfl, by decide +kernel, rfl, by decide +kernel, by decide +kernel⟩
theorem d__law_cell_at (T : Txt K mg)  {fa : Addr} {fd : FuncData} (F : FnP K "_law_cell_at" s__law_cell_at fa fd) (gm : mg "_law_cell_at" = some (.ref fa)) : DefSV P w K mg base 1 "_law_cell_at" 1 f__law_cell_at :=
  ⟨fa, fd, ["_law_script", "_law_k"], gm, F.kp, (F.bindsN (ps := ["_law_script", "_law_k"]) fun _ _ _ _ _ _ us hl => match us, hl with | [_, _], _ => rfl), by
  rw [show f__law_cell_at = runSV (["_law_script", "_law_k"] : List Str).length m__law_cell_at from rfl]
  exact fn_SV (k := 0) F sc__law_cell_at rfl (fun cdv A outer s H E c =>
  (mss_cons (ms_if (mt_cmp (o_lt c.units0) (m_nm 1) (m_vl (m_lenS 0 T.n_len)) (nomark _)) (mss_one (ms_retC (.inl rfl) (m_ixS 0 (m_nm 1)))) mss_nil) (mss_one (ms_retC (.inl rfl) m_int))))⟩

abbrev s__law_state : Stmt := topS 31
theorem sc__law_state : FnScope ["_law_script", "_law_k", "_law_cell"] ["_law_script", "_law_k"] (defScope s__law_state) := ⟨rfl, rfl, rfl, by decide +kernel, rfl, by decide +kernel, by decide +kernel⟩
theorem d__law_state (T : Txt K mg) (G__law_cell_at : DefSV P w K mg base 1 "_law_cell_at" 1 f__law_cell_at) {fa : Addr} {fd : FuncData} (F : FnP K "_law_state" s__law_state fa fd) (gm : mg "_law_state" = some (.ref fa)) : DefSO P w K mg base 2 "_law_state" 1 f__law_state :=
  ⟨fa, fd, ["_law_script", "_law_k"], gm, F.kp, (F.bindsN (ps := ["_law_script", "_law_k"]) fun _ _ _ _ _ _ us hl => match us, hl with | [_, _], _ => rfl), by
  rw [show f__law_state = runSO (["_law_script", "_law_k", "_law_cell"] : List Str).length m__law_state from rfl]
  exact fn_SO (k := 1) F sc__law_state rfl (fun cdv A outer s H E c =>
  (mss_cons (ms_set 2 (.inl rfl) c.nd (mvS_call 0 G__law_cell_at c (by decide) (an_cons (m_var 1 (.inl rfl)) an_nil))) (mss_cons (ms_if (mt_cmp o_ge (m_nm 2) (m_vl (m_op o_pow (m_vl m_int) (m_vl m_int))) (nomark _)) (mss_one (ms_retOC (.inl rfl) (m_lstO (ma_cons (m_op o_sub (m_nm 2) (m_vl (m_op o_pow (m_vl m_int) (m_vl m_int)))) (ma_cons m_bl ma_nil))))) mss_nil) (mss_one (ms_retOC (.inl rfl) (m_lstO (ma_cons (m_op o_mod (m_nm 2) (m_vl m_int)) (ma_cons m_bl ma_nil))))))))⟩

abbrev s__law_take : Stmt := topS 32
theorem sc__law_take : FnScope ["_law_state_here", "_law_many", "_law_mixed", "_law_found"] ["_law_state_here", "_law_many"] (defScope s__law_take) := ⟨rfl, rfl, rfl, by decide +kernel, rfl, by decide +kernel, by decide +kernel⟩
theorem d__law_take (T : Txt K mg)  {fa : Addr} {fd : FuncData} (F : FnP K "_law_take" s__law_take fa fd) (gm : mg "_law_take" = some (.ref fa)) : DefR P w K mg base 1 "_law_take" 1 f__law_take :=
  ⟨fa, fd, ["_law_state_here", "_law_many"], gm, F.kp, (F.bindsN (ps := ["_law_state_here", "_law_many"]) fun _ _ _ _ _ _ us hl => match us, hl with | [_, _], _ => rfl), fn_R (k := 0) F sc__law_take rfl (fun cdv A outer s H E p c =>
  (mss_cons (ms_if (mt_val (m_ix (m_nm 0) (m_vl m_int))) (mss_cons (ms_set 3 (.inr (by decide)) c.nd (m_op o_mod (m_vl (m_ix (m_nm 0) (m_vl m_int))) (m_nm 1))) (mss_cons (ms_setIx 0 (m_op o_div (m_vl (m_ix (m_nm 0) (m_vl m_int))) (m_nm 1)) (m_vl m_int)) (mss_one (ms_retC (.inr rfl) (m_var 3 (.inr (by decide))))))) mss_nil) (mss_cons (ms_setIx 0 (m_op o_mod (m_vl (m_op o_addL (m_vl (m_op o_mul (m_vl (m_ix (m_nm 0) (m_vl m_int))) (m_vl m_int))) (m_vl m_int))) (m_vl m_int)) (m_vl m_int)) (mss_cons (ms_set 2 (.inr (by decide)) c.nd (m_op o_mod (m_vl (m_op o_addL (m_vl (m_op o_addL (m_vl (m_op o_mul (m_vl (m_ix (m_nm 0) (m_vl m_int))) (m_vl (m_ix (m_nm 0) (m_vl m_int))))) (m_vl (m_op o_mul (m_vl m_int) (m_vl (m_ix (m_nm 0) (m_vl m_int))))))) (m_vl m_int))) (m_vl m_int))) (mss_cons (ms_set 2 (.inr (by decide)) c.nd (m_op o_mod (m_vl (m_op o_addL (m_vl (m_op o_mul (m_nm 2) (m_nm 2))) (m_vl (m_op o_mul (m_vl m_int) (m_nm 2))))) (m_vl m_int))) (mss_one (ms_retC (.inr rfl) (m_op o_mod (m_vl (m_op o_div (m_nm 2) (m_vl m_int))) (m_nm 1)))))))))⟩

abbrev s__law_turning : Stmt := topS 33
theorem sc__law_turning : FnScope ["_law_state_here", "_law_names", "_law_rest", "_law_found", "_law_turn"] ["_law_state_here", "_law_names"] (defScope s__law_turning) := ⟨rfl, rfl, rfl, by decide +kernel, rfl, by decide +kernel, by decide +kernel⟩
theorem d__law_turning (T : Txt K mg) (G__law_take : DefR P w K mg base 1 "_law_take" 1 f__law_take) {fa : Addr} {fd : FuncData} (F : FnP K "_law_turning" s__law_turning fa fd) (gm : mg "_law_turning" = some (.ref fa)) : DefR P w K mg base 2 "_law_turning" 1 f__law_turning :=
  ⟨fa, fd, ["_law_state_here", "_law_names"], gm, F.kp, (F.bindsN (ps := ["_law_state_here", "_law_names"]) fun _ _ _ _ _ _ us hl => match us, hl with | [_, _], _ => rfl), fn_R (k := 1) F sc__law_turning rfl (fun cdv A outer s H E p c =>
  (mss_cons (ms_setO 2 (.inr (by decide)) c.nd (m_listRg c.calm T.n_list (rg2 T.n_range (m_vl m_int) (m_vl (m_op o_addL (m_nm 1) (m_vl m_int)))))) (mss_cons (ms_setO 3 (.inr (by decide)) c.nd (m_lstO ma_nil)) (mss_cons (ms_for (fun _ _ _ => setV_exc) c.own c.calm (mi_rg1 T.n_range (m_nm 1)) (mg_name 4 (.inr (by decide)) c.nd) (mss_cons (ms_app 3 (m_op o_mul (m_vl (m_popAt 2 (mr_call 0 G__law_take c (by decide) (an_cons (m_callB1 f_len T.n_len (m_nm 2)) an_nil)))) (m_vl (m_ix (m_vl (m_frz (m_lstO (ma_cons m_int (ma_cons (m_neg (m_vl m_int)) ma_nil))))) (m_vl (mr_call 0 G__law_take c (by decide) (an_cons m_int an_nil))))))) (mss_pre (fz := []) (wp := [4]) mss_nil (.inr ⟨by decide, by decide⟩)))) (mss_one (ms_retC (.inr rfl) (m_callT1 f_tuple T.n_tuple (m_nm 3))))))))⟩

abbrev s__law_clause : Stmt := topS 34
theorem sc__law_clause : FnScope ["_law_state_here", "_law_names", "_law_signs", "_law_name"] ["_law_state_here", "_law_names"] (defScope s__law_clause) := ⟨rfl, rfl, rfl, by decide +kernel, rfl, by decide +kernel, by decide +kernel⟩
theorem d__law_clause (T : Txt K mg) (G__law_take : DefR P w K mg base 1 "_law_take" 1 f__law_take) {fa : Addr} {fd : FuncData} (F : FnP K "_law_clause" s__law_clause fa fd) (gm : mg "_law_clause" = some (.ref fa)) : DefR P w K mg base 2 "_law_clause" 1 f__law_clause_w2 :=
  ⟨fa, fd, ["_law_state_here", "_law_names"], gm, F.kp, (F.bindsN (ps := ["_law_state_here", "_law_names"]) fun _ _ _ _ _ _ us hl => match us, hl with | [_, _], _ => rfl), fn_R (k := 1) F sc__law_clause rfl (fun cdv A outer s H E p c =>
  (mss_cons (ms_lc 2 (.inr (by decide)) (own := [("_law_name", 3)]) (fun _ _ _ => setV_exc) (by decide) (fun v hv => .inr (by rintro rfl; revert hv; decide)) c.calm c.nd (mi_rg2 T.n_range (m_vl m_int) (m_vl (m_op o_addL (m_nm 1) (m_vl m_int)))) (blkOk_by (by kernel_rfl)) (fun s1 H1 L1 cl1 fp1 => (mg_name 3 (.inr (by decide)) (c.blk s1 H1 _ _ fp1).nd)) (fun s1 H1 L1 cl1 fp1 => (mts_one (mt_cmp (o_eq (c.blk s1 H1 _ _ fp1).units) (m_vl (mr_call 0 G__law_take (c.blk s1 H1 _ _ fp1) (by decide) (an_cons m_int an_nil))) (m_vl m_int) (nomark _)))) (fun s1 H1 L1 cl1 fp1 => (m_op o_mul (m_nm 3) (m_vl (m_ix (m_vl (m_frz (m_lstO (ma_cons m_int (ma_cons (m_neg (m_vl m_int)) ma_nil))))) (m_vl (mr_call 0 G__law_take (c.blk s1 H1 _ _ fp1) (by decide) (an_cons m_int an_nil)))))))) (mss_cons (ms_if (mt_cmp (o_eq c.units) (m_nm 2) (m_vl (m_frz (m_lstO ma_nil))) (nomark _)) (mss_one (ms_set 2 (.inr (by decide)) c.nd (m_frz (m_lstO (ma_cons (m_op o_mul (m_vl (m_op o_addL (m_vl m_int) (m_vl (mr_call 0 G__law_take c (by decide) (an_cons (m_var 1 (.inr (by decide))) an_nil))))) (m_vl (m_ix (m_vl (m_frz (m_lstO (ma_cons m_int (ma_cons (m_neg (m_vl m_int)) ma_nil))))) (m_vl (mr_call 0 G__law_take c (by decide) (an_cons m_int an_nil)))))) ma_nil))))) (mss_pre (fz := [2]) (wp := []) mss_nil (.inr ⟨by decide, by decide⟩))) (mss_one (ms_retC (.inr rfl) (m_callT1 f_tuple T.n_tuple (m_nm 2)))))))⟩

abbrev s__law_led_sign : Stmt := topS 35
theorem sc__law_led_sign : FnScope ["_law_turning_here", "_law_sign"] ["_law_turning_here", "_law_sign"] (defScope s__law_led_sign) := ⟨rfl, rfl, rfl, by decide +kernel, rfl, by decide +kernel, by decide +kernel⟩
theorem d__law_led_sign (T : Txt K mg)  {fa : Addr} {fd : FuncData} (F : FnP K "_law_led_sign" s__law_led_sign fa fd) (gm : mg "_law_led_sign" = some (.ref fa)) : DefV P w K mg base 1 "_law_led_sign" 2 f__law_led_sign_w2 :=
  ⟨fa, fd, ["_law_turning_here", "_law_sign"], gm, F.kp, (F.bindsN (ps := ["_law_turning_here", "_law_sign"]) fun _ _ _ _ _ _ us hl => match us, hl with | [_, _], _ => rfl), fn_V (k := 0) F sc__law_led_sign (fun cdv A outer s H E c =>
  (mss_one (ms_retC (.inl rfl) (m_op o_mul (m_vl (m_ix (m_nm 0) (m_vl (m_op o_sub (m_vl (m_callB1 f_abs T.n_abs (m_nm 1))) (m_vl m_int))))) (m_vl (m_ix (m_vl (m_frz (m_lstO (ma_cons m_int (ma_cons (m_neg (m_vl m_int)) ma_nil))))) (m_vl (m_callT1 f_int T.n_int (m_vl (m_cmp (o_lt c.units0) (m_nm 1) (m_vl m_int) (nomark _)))))))))))⟩

abbrev s__law_led_clause : Stmt := topS 36
theorem sc__law_led_clause : FnScope ["_law_clause_here", "_law_turning_here", "_law_row", "_law_sign", "_law_name"] ["_law_clause_here", "_law_turning_here"] (defScope s__law_led_clause) := ⟨rfl, rfl, rfl, by decide +kernel, rfl, by decide +kernel, by decide +kernel⟩
theorem d__law_led_clause (T : Txt K mg) (G__law_led_sign : DefV P w K mg base 1 "_law_led_sign" 2 f__law_led_sign_w2) {fa : Addr} {fd : FuncData} (F : FnP K "_law_led_clause" s__law_led_clause fa fd) (gm : mg "_law_led_clause" = some (.ref fa)) : DefV P w K mg base 2 "_law_led_clause" 2 f__law_led_clause_w2 :=
  ⟨fa, fd, ["_law_clause_here", "_law_turning_here"], gm, F.kp, (F.bindsN (ps := ["_law_clause_here", "_law_turning_here"]) fun _ _ _ _ _ _ us hl => match us, hl with | [_, _], _ => rfl), fn_V (k := 1) F sc__law_led_clause (fun cdv A outer s H E c =>
  (mss_cons (ms_lc 2 (.inl rfl) (own := [("_law_sign", 3)]) (fun _ _ _ => setV_exc) (by decide) (fun _ _ => .inl rfl) c.calm c.nd (mi_seq (m_var 0 (.inl rfl))) (blkOk_by (by kernel_rfl)) (fun s1 H1 L1 cl1 fp1 => (mg_name 3 (.inl rfl) (c.blk s1 H1 _ _ fp1).nd)) (fun s1 H1 L1 cl1 fp1 => mts_nil) (fun s1 H1 L1 cl1 fp1 => (m_tup (k := 0) (ma_cons (m_callB1 f_abs T.n_abs (m_vl (mv_call G__law_led_sign (c.blk s1 H1 _ _ fp1) (by decide) (an_cons (m_var 1 (.inl rfl)) (an_cons (m_var 3 (.inl rfl)) an_nil))))) (ma_cons (mv_call G__law_led_sign (c.blk s1 H1 _ _ fp1) (by decide) (an_cons (m_var 1 (.inl rfl)) (an_cons (m_var 3 (.inl rfl)) an_nil))) ma_nil))))) (mss_one (ms_retC (.inl rfl) (m_callT1 f_tuple T.n_tuple (m_vl (m_frz (m_lcO (own := [("_law_name", 4), ("_law_sign", 3)]) (fun _ _ _ => bdT_exc) (by decide) (fun _ _ => .inl rfl) c.calm c.nd (mi_seq (m_frz (m_callB1O f_sorted2 T.n_sorted (m_nm 2)))) (blkOk_by (by kernel_rfl)) (fun s2 H2 L2 cl2 fp2 => (mg_tup (k := 0) (c.blk s2 H2 _ _ fp2).calm (mgs_cons (mg_name 4 (.inl rfl) (c.blk s2 H2 _ _ fp2).nd) (mgs_cons (mg_name 3 (.inl rfl) (c.blk s2 H2 _ _ fp2).nd) mgs_nil)))) (fun s2 H2 L2 cl2 fp2 => mts_nil) (fun s2 H2 L2 cl2 fp2 => (m_var 3 (.inl rfl)))))))))))⟩

abbrev s__law_riddle_of : Stmt := topS 37
theorem sc__law_riddle_of : FnScope ["_law_state_here", "_law_names", "_law_most", "_law_some", "_law_turn", "_law_turning_here", "_law_fresh", "_law_clause_here"] ["_law_state_here", "_law_names"] (defScope s__law_riddle_of) := ⟨rfl, rfl, rfl, by decide +kernel, rfl, by decide +kernel, by decide +kernel⟩
theorem d__law_riddle_of (T : Txt K mg) (G__law_turning : DefR P w K mg base 2 "_law_turning" 1 f__law_turning) (G__law_take : DefR P w K mg base 1 "_law_take" 1 f__law_take) (G__law_led_clause : DefV P w K mg base 2 "_law_led_clause" 2 f__law_led_clause_w2) (G__law_clause : DefR P w K mg base 2 "_law_clause" 1 f__law_clause_w2) {fa : Addr} {fd : FuncData} (F : FnP K "_law_riddle_of" s__law_riddle_of fa fd) (gm : mg "_law_riddle_of" = some (.ref fa)) : DefR P w K mg base 3 "_law_riddle_of" 1 f__law_riddle_of :=
  ⟨fa, fd, ["_law_state_here", "_law_names"], gm, F.kp, (F.bindsN (ps := ["_law_state_here", "_law_names"]) fun _ _ _ _ _ _ us hl => match us, hl with | [_, _], _ => rfl), fn_R (k := 2) F sc__law_riddle_of rfl (fun cdv A outer s H E p c =>
  (mss_cons (ms_if (mt_cmp (o_eq c.units) (m_nm 1) (m_vl m_int) (nomark _)) (mss_one (ms_retC (.inr rfl) (m_tup (k := 0) (ma_cons m_int (ma_cons (m_tup (k := 0) ma_nil) ma_nil))))) mss_nil) (mss_cons (ms_set 2 (.inr (by decide)) c.nd (m_ix (m_vl (m_frz (m_lstO (ma_cons m_int (ma_cons m_int (ma_cons m_int ma_nil)))))) (m_vl (mr_call 0 G__law_take c (by decide) (an_cons m_int an_nil))))) (mss_cons (ms_newT 3 (.inr (by decide)) c.nd) (mss_cons (ms_for (fun _ _ _ => setV_exc) c.own c.calm (mi_rg1 T.n_range (m_vl (mr_call 0 G__law_take c (by decide) (an_cons (m_op o_addL (m_nm 2) (m_vl m_int)) an_nil)))) (mg_name 4 (.inr (by decide)) c.nd) (mss_cons (ms_putD 3 c.units1 m_bl (m_vl (mr_call 0 G__law_clause c (by decide) (an_cons (m_var 1 (.inr (by decide))) an_nil)))) (mss_pre (fz := []) (wp := [4]) mss_nil (.inr ⟨by decide, by decide⟩)))) (mss_cons (ms_set 5 (.inr (by decide)) c.nd (mr_call 0 G__law_turning c (by decide) (an_cons (m_var 1 (.inr (by decide))) an_nil))) (mss_cons (ms_setO 6 (.inr (by decide)) c.nd (m_opO o_repO (m_vl (m_frz (m_listD 3 c.calm T.n_list))) (m_vl (m_ix (m_vl (m_frz (m_lstO (ma_cons m_int (ma_cons m_int ma_nil))))) (m_vl (mr_call 0 G__law_take c (by decide) (an_cons m_int an_nil))))))) (mss_cons (ms_while fuel c.own (mt_cmp (o_ne c.units) (m_nm 6) (m_vl (m_frz (m_lstO ma_nil))) (nomark _)) (mss_cons (ms_set 7 (.inr (by decide)) c.nd (mv_call G__law_led_clause c (by decide) (an_cons (m_pop 6) (an_cons (m_var 5 (.inr (by decide))) an_nil)))) (mss_cons (ms_if (mt_notInD 3 c.units1 (m_nm 7)) (mss_cons (ms_putD 3 c.units1 m_bl (m_nm 7)) (mss_one (ms_app 6 (m_var 7 (.inr (by decide)))))) mss_nil) (mss_pre (fz := []) (wp := [7]) mss_nil (.inr ⟨by decide, by decide⟩))))) (mss_one (ms_retC (.inr rfl) (m_tup (k := 0) (ma_cons (m_var 1 (.inr (by decide))) (ma_cons (m_callT1 f_tuple T.n_tuple (m_vl (m_sl (m_vl (m_frz (m_sortT 3 c.calm T.n_sorted))) mp_no (mp_so (m_vl m_int))))) ma_nil)))))))))))))⟩

abbrev s__law_bits : Stmt := topS 38
theorem sc__law_bits : FnScope ["_law_names", "_law_number", "_law_k"] ["_law_names"] (defScope s__law_bits) := ⟨rfl, rfl, rfl, by decide +kernel, rfl, by decide +kernel, by decide +kernel⟩
theorem d__law_bits (T : Txt K mg)  {fa : Addr} {fd : FuncData} (F : FnP K "_law_bits" s__law_bits fa fd) (gm : mg "_law_bits" = some (.ref fa)) : DefV P w K mg base 1 "_law_bits" 1 f__law_bits :=
  ⟨fa, fd, ["_law_names"], gm, F.kp, (F.bindsN (ps := ["_law_names"]) fun _ _ _ _ _ _ us hl => match us, hl with | [_], _ => rfl), fn_V (k := 0) F sc__law_bits (fun cdv A outer s H E c =>
  (mss_one (ms_retC (.inl rfl) (m_frz (m_lcO (own := [("_law_number", 1)]) (fun _ _ _ => setV_exc) (by decide) (fun _ _ => .inl rfl) c.calm c.nd (mi_rg1 T.n_range (m_vl (m_op o_shl (m_vl m_int) (m_nm 0)))) (blkOk_by (by kernel_rfl)) (fun s1 H1 L1 cl1 fp1 => (mg_name 1 (.inl rfl) (c.blk s1 H1 _ _ fp1).nd)) (fun s1 H1 L1 cl1 fp1 => mts_nil) (fun s1 H1 L1 cl1 fp1 => (m_callT1 f_tuple T.n_tuple (m_vl (m_frz (m_lcO (own := [("_law_k", 2)]) (fun _ _ _ => setV_exc) (by decide) (fun _ _ => .inl rfl) (c.blk s1 H1 _ _ fp1).calm (c.blk s1 H1 _ _ fp1).nd (mi_rg1 T.n_range (m_nm 0)) (blkOk_by (by kernel_rfl)) (fun s2 H2 L2 cl2 fp2 => (mg_name 2 (.inl rfl) ((c.blk s1 H1 _ _ fp1).blk s2 H2 _ _ fp2).nd)) (fun s2 H2 L2 cl2 fp2 => mts_nil) (fun s2 H2 L2 cl2 fp2 => (m_op o_and (m_vl (m_op o_shr (m_nm 1) (m_vl (m_op o_sub (m_vl (m_op o_sub (m_nm 0) (m_vl m_int))) (m_nm 2))))) (m_vl m_int)))))))))))))⟩

abbrev s__law_turnings_right : Stmt := topS 39
theorem sc__law_turnings_right : FnScope ["_law_one", "_law_other", "_law_names", "_law_both", "_law_sign", "_law_here", "_law_turn"] ["_law_one", "_law_other"] (defScope s__law_turnings_right) := ⟨rfl, rfl, rfl, by decide +kernel, rfl, by decide +kernel, by decide +kernel⟩
theorem d__law_turnings_right (T : Txt K mg) (G_behind : DefV P w K mg base 2 "behind" 2 f_behind) (G_still : DefV P w K mg base 1 "still" 1 f_still) (G_is_turning : DefV P w K mg base 2 "is_turning" 2 f_is_turning) (G_order_of : DefV P w K mg base 3 "order_of" 1 f_order_of) (G_back : DefV P w K mg base 1 "back" 1 f_back) (G_led_sign : DefV P w K mg base 1 "led_sign" 2 f_led_sign) {fa : Addr} {fd : FuncData} (F : FnP K "_law_turnings_right" s__law_turnings_right fa fd) (gm : mg "_law_turnings_right" = some (.ref fa)) : DefV P w K mg base 4 "_law_turnings_right" 2 f__law_turnings_right :=
  ⟨fa, fd, ["_law_one", "_law_other"], gm, F.kp, (F.bindsN (ps := ["_law_one", "_law_other"]) fun _ _ _ _ _ _ us hl => match us, hl with | [_, _], _ => rfl), fn_V (k := 3) F sc__law_turnings_right (fun cdv A outer s H E c =>
  (mss_cons (ms_set 2 (.inl rfl) c.nd (m_callB1 f_len T.n_len (m_nm 0))) (mss_cons (ms_set 3 (.inl rfl) c.nd (mv_call G_behind c (by decide) (an_cons (m_var 0 (.inl rfl)) (an_cons (m_var 1 (.inl rfl)) an_nil)))) (mss_cons (ms_if (PW.pt (mt_or (mt_cmp o_notB (m_vl (mv_call G_is_turning c (by decide) (an_cons (m_var 2 (.inl rfl)) (an_cons (m_var 3 (.inl rfl)) an_nil)))) (m_vl m_bl) (nomark _)) (pw_or1 (mt_cmp o_notB (m_vl (mv_call G_is_turning c (by decide) (an_cons (m_var 2 (.inl rfl)) (an_cons (mv_call G_back c (by decide) (an_cons (m_var 0 (.inl rfl)) an_nil)) an_nil)))) (m_vl m_bl) (nomark _))))) (mss_one (ms_retC (.inl rfl) m_bl)) mss_nil) (mss_cons (ms_if (PW.pt (mt_or (mt_cmp (o_ne c.units) (m_vl (mv_call G_behind c (by decide) (an_cons (m_var 0 (.inl rfl)) (an_cons (mv_call G_back c (by decide) (an_cons (m_var 0 (.inl rfl)) an_nil)) an_nil)))) (m_vl (mv_call G_still c (by decide) (an_cons (m_var 2 (.inl rfl)) an_nil))) (nomark _)) (pw_or1 (mt_cmp (o_ne c.units) (m_vl (mv_call G_behind c (by decide) (an_cons (mv_call G_back c (by decide) (an_cons (m_var 0 (.inl rfl)) an_nil)) (an_cons (m_var 0 (.inl rfl)) an_nil)))) (m_vl (mv_call G_still c (by decide) (an_cons (m_var 2 (.inl rfl)) an_nil))) (nomark _))))) (mss_one (ms_retC (.inl rfl) m_bl)) mss_nil) (mss_cons (ms_for (fun _ _ _ => setV_exc) c.own c.calm (mi_rg2 T.n_range (m_vl m_int) (m_vl (m_op o_addL (m_nm 2) (m_vl m_int)))) (mg_name 4 (.inl rfl) c.nd) (mss_cons (ms_if (PW.pt (mt_or (mt_cmp (o_ne c.units) (m_vl (mv_call G_led_sign c (by decide) (an_cons (m_var 3 (.inl rfl)) (an_cons (m_var 4 (.inl rfl)) an_nil)))) (m_vl (mv_call G_led_sign c (by decide) (an_cons (m_var 1 (.inl rfl)) (an_cons (mv_call G_led_sign c (by decide) (an_cons (m_var 0 (.inl rfl)) (an_cons (m_var 4 (.inl rfl)) an_nil))) an_nil)))) (nomark _)) (pw_or1 (mt_cmp (o_ne c.units) (m_vl (mv_call G_led_sign c (by decide) (an_cons (m_var 0 (.inl rfl)) (an_cons (m_neg (m_nm 4)) an_nil)))) (m_vl (m_neg (m_vl (mv_call G_led_sign c (by decide) (an_cons (m_var 0 (.inl rfl)) (an_cons (m_var 4 (.inl rfl)) an_nil)))))) (nomark _))))) (mss_one (ms_retC (.inl rfl) m_bl)) mss_nil) (mss_pre (fz := []) (wp := [4]) mss_nil (.inl rfl)))) (mss_cons (ms_set 5 (.inl rfl) c.nd (mv_call G_still c (by decide) (an_cons (m_var 2 (.inl rfl)) an_nil))) (mss_cons (ms_for (fun _ _ _ => setV_exc) c.own c.calm (mi_rg1 T.n_range (m_vl (m_op o_sub (m_vl (mv_call G_order_of c (by decide) (an_cons (m_var 0 (.inl rfl)) an_nil))) (m_vl m_int)))) (mg_name 6 (.inl rfl) c.nd) (mss_cons (ms_set 5 (.inl rfl) c.nd (mv_call G_behind c (by decide) (an_cons (m_var 5 (.inl rfl)) (an_cons (m_var 0 (.inl rfl)) an_nil)))) (mss_cons (ms_if (mt_cmp (o_eq c.units) (m_nm 5) (m_vl (mv_call G_still c (by decide) (an_cons (m_var 2 (.inl rfl)) an_nil))) (nomark _)) (mss_one (ms_retC (.inl rfl) m_bl)) mss_nil) (mss_pre (fz := []) (wp := [6]) mss_nil (.inl rfl))))) (mss_one (ms_retC (.inl rfl) (m_cmp (o_eq c.units) (m_vl (mv_call G_behind c (by decide) (an_cons (m_var 5 (.inl rfl)) (an_cons (m_var 0 (.inl rfl)) an_nil)))) (m_vl (mv_call G_still c (by decide) (an_cons (m_var 2 (.inl rfl)) an_nil))) (nomark _))))))))))))⟩

abbrev s_law : Stmt := topS 40
theorem sc_law : FnScope ["_law_script", "_law_k", "_law_state_here", "_law_riddle", "_law_there", "_law_answer", "_law_one", "_law_other", "_law_turn"] ["_law_script"] (defScope s_law) := ⟨rfl, rfl, rfl, by decide +kernel, rfl, by decide +kernel, by decide +kernel⟩
theorem d_law (T : Txt K mg) (G__law_state : DefSO P w K mg base 2 "_law_state" 1 f__law_state) (G__law_riddle_of : DefR P w K mg base 3 "_law_riddle_of" 1 f__law_riddle_of) (G_led : DefV P w K mg base 4 "led" 2 f_led) (G__law_bits : DefV P w K mg base 1 "_law_bits" 1 f__law_bits) (G__law_take : DefR P w K mg base 1 "_law_take" 1 f__law_take) (G__law_turning : DefR P w K mg base 2 "_law_turning" 1 f__law_turning) (G__law_turnings_right : DefV P w K mg base 4 "_law_turnings_right" 2 f__law_turnings_right) (G_answers : DefV P w K mg base 5 "answers" 1 f_answers_w2) (G_is_riddle : DefV P w K mg base 4 "is_riddle" 1 f_is_riddle) (G_keeps : DefV P w K mg base 4 "keeps" 2 f_keeps) (G_led_answer : DefV P w K mg base 4 "led_answer" 2 f_led_answer) (G_back : DefV P w K mg base 1 "back" 1 f_back) (G_behind : DefV P w K mg base 2 "behind" 2 f_behind) (G_still : DefV P w K mg base 1 "still" 1 f_still) {fa : Addr} {fd : FuncData} (F : FnP K "law" s_law fa fd) (gm : mg "law" = some (.ref fa)) : FnOk P w K mg base (L2.CX P w) 6 fa fd ["_law_script"] (spSV K mg 0 f_law_k24) := by
  rw [show f_law_k24 = runSV (["_law_script", "_law_k", "_law_state_here", "_law_riddle", "_law_there", "_law_answer", "_law_one", "_law_other", "_law_turn"] : List Str).length m_law_k24 from rfl]
  exact fn_SV (k := 5) F sc_law rfl (fun cdv A outer s H E c =>
  (mss_cons (ms_for (fun _ _ _ => setV_exc) c.own c.calm (mi_rg1 T.n_range (m_vl (m_callB2 (f_max c.calm) T.n_max (m_vl m_int) (m_vl (m_callB2 (f_min c.calm) T.n_min (m_vl (m_lenS 0 T.n_len)) (m_vl m_int)))))) (mg_name 1 (.inl rfl) c.nd) (mss_cons (ms_setO 2 (.inl rfl) c.nd (moS_call 0 G__law_state c (by decide) (an_cons (m_var 1 (.inl rfl)) an_nil))) (mss_cons (ms_set 3 (.inl rfl) c.nd (mr_call 2 G__law_riddle_of c (by decide) (an_cons (mr_call 2 G__law_take c (by decide) (an_cons m_int an_nil)) an_nil))) (mss_cons (ms_asg (m_frz (m_lcO (own := [("_law_turn", 8)]) (fun _ _ _ => setV_exc) (by decide) (fun _ _ => .inl rfl) c.calm c.nd (mi_rg1 T.n_range (m_vl m_int)) (blkOk_by (by kernel_rfl)) (fun s1 H1 L1 cl1 fp1 => (mg_name 8 (.inl rfl) (c.blk s1 H1 _ _ fp1).nd)) (fun s1 H1 L1 cl1 fp1 => mts_nil) (fun s1 H1 L1 cl1 fp1 => (mr_call 2 G__law_turning (c.blk s1 H1 _ _ fp1) (by decide) (an_cons (m_ix (m_nm 3) (m_vl m_int)) an_nil))))) (mg_tup (k := 0) c.calm (mgs_cons (mg_name 6 (.inl rfl) c.nd) (mgs_cons (mg_name 7 (.inl rfl) c.nd) mgs_nil)))) (mss_cons (ms_if (mt_not (mt_val (mv_call G__law_turnings_right c (by decide) (an_cons (m_var 6 (.inl rfl)) (an_cons (m_var 7 (.inl rfl)) an_nil))))) (mss_one (ms_retC (.inl rfl) m_bl)) mss_nil) (mss_cons (ms_set 4 (.inl rfl) c.nd (mv_call G_led c (by decide) (an_cons (m_var 3 (.inl rfl)) (an_cons (m_var 6 (.inl rfl)) an_nil)))) (mss_cons (ms_if (PW.pt (mt_or (mt_cmp o_notB (m_vl (mv_call G_is_riddle c (by decide) (an_cons (m_var 4 (.inl rfl)) an_nil))) (m_vl m_bl) (nomark _)) (mt_or (mt_cmp (o_ne c.units) (m_vl (m_callB1 f_len T.n_len (m_vl (m_ix (m_nm 4) (m_vl m_int))))) (m_vl (m_callB1 f_len T.n_len (m_vl (m_ix (m_nm 3) (m_vl m_int))))) (nomark _)) (pw_or1 (mt_cmp (o_ne c.units) (m_vl (mv_call G_led c (by decide) (an_cons (m_var 4 (.inl rfl)) (an_cons (mv_call G_back c (by decide) (an_cons (m_var 6 (.inl rfl)) an_nil)) an_nil)))) (m_nm 3) (nomark _)))))) (mss_one (ms_retC (.inl rfl) m_bl)) mss_nil) (mss_cons (ms_if (PW.pt (mt_or (mt_cmp (o_ne c.units) (m_vl (mv_call G_led c (by decide) (an_cons (m_var 4 (.inl rfl)) (an_cons (m_var 7 (.inl rfl)) an_nil)))) (m_vl (mv_call G_led c (by decide) (an_cons (m_var 3 (.inl rfl)) (an_cons (mv_call G_behind c (by decide) (an_cons (m_var 6 (.inl rfl)) (an_cons (m_var 7 (.inl rfl)) an_nil))) an_nil)))) (nomark _)) (pw_or1 (mt_cmp (o_ne c.units) (m_vl (mv_call G_led c (by decide) (an_cons (m_var 3 (.inl rfl)) (an_cons (mv_call G_still c (by decide) (an_cons (m_ix (m_nm 3) (m_vl m_int)) an_nil)) an_nil)))) (m_nm 3) (nomark _))))) (mss_one (ms_retC (.inl rfl) m_bl)) mss_nil) (mss_cons (ms_for (fun _ _ _ => setV_exc) c.own c.calm (mi_seq (mv_call G__law_bits c (by decide) (an_cons (m_ix (m_nm 3) (m_vl m_int)) an_nil))) (mg_name 5 (.inl rfl) c.nd) (mss_cons (ms_if (mt_cmp (o_ne c.units) (m_vl (mv_call G_keeps c (by decide) (an_cons (m_var 3 (.inl rfl)) (an_cons (m_var 5 (.inl rfl)) an_nil)))) (m_vl (mv_call G_keeps c (by decide) (an_cons (m_var 4 (.inl rfl)) (an_cons (mv_call G_led_answer c (by decide) (an_cons (m_var 5 (.inl rfl)) (an_cons (m_var 6 (.inl rfl)) an_nil))) an_nil)))) (nomark _)) (mss_one (ms_retC (.inl rfl) m_bl)) mss_nil) (mss_cons (ms_if (mt_cmp (o_ne c.units) (m_vl (mv_call G_led_answer c (by decide) (an_cons (mv_call G_led_answer c (by decide) (an_cons (m_var 5 (.inl rfl)) (an_cons (m_var 6 (.inl rfl)) an_nil))) (an_cons (m_var 7 (.inl rfl)) an_nil)))) (m_vl (mv_call G_led_answer c (by decide) (an_cons (m_var 5 (.inl rfl)) (an_cons (mv_call G_behind c (by decide) (an_cons (m_var 6 (.inl rfl)) (an_cons (m_var 7 (.inl rfl)) an_nil))) an_nil)))) (nomark _)) (mss_one (ms_retC (.inl rfl) m_bl)) mss_nil) (mss_pre (fz := []) (wp := [5]) mss_nil (.inl rfl))))) (mss_cons (ms_if (mt_cmp (o_ne c.units) (m_vl (m_frz (m_callB1O f_sorted2 T.n_sorted (m_vl (m_frz (m_lcO (own := [("_law_answer", 5)]) (fun _ _ _ => setV_exc) (by decide) (fun _ _ => .inl rfl) c.calm c.nd (mi_seq (mv_call G_answers c (by decide) (an_cons (m_var 3 (.inl rfl)) an_nil))) (blkOk_by (by kernel_rfl)) (fun s2 H2 L2 cl2 fp2 => (mg_name 5 (.inl rfl) (c.blk s2 H2 _ _ fp2).nd)) (fun s2 H2 L2 cl2 fp2 => mts_nil) (fun s2 H2 L2 cl2 fp2 => (mv_call G_led_answer (c.blk s2 H2 _ _ fp2) (by decide) (an_cons (m_var 5 (.inl rfl)) (an_cons (m_var 6 (.inl rfl)) an_nil)))))))))) (m_vl (mv_call G_answers c (by decide) (an_cons (m_var 4 (.inl rfl)) an_nil))) (nomark _)) (mss_one (ms_retC (.inl rfl) m_bl)) mss_nil) (mss_pre (fz := []) (wp := [1, 2, 3, 4, 6, 7]) mss_nil (.inl rfl)))))))))))) (mss_one (ms_retC (.inl rfl) m_bl))))

end
end LW

set_option Elab.async false
set_option linter.all false
set_option maxRecDepth 100000
set_option maxHeartbeats 0
namespace LW
open PySem PySem.Spec PyProof.Rows L2 VS
/-! ### the head -/
section
def D_is_whole : He.DefD := ⟨("is_whole", none), "is_whole", "is_whole", defArgs s_is_whole, defBody s_is_whole, defScope s_is_whole, [], []⟩
def D_is_between : He.DefD := ⟨("is_between", none), "is_between", "is_between", defArgs s_is_between, defBody s_is_between, defScope s_is_between, [], []⟩
def D_is_clause : He.DefD := ⟨("is_clause", none), "is_clause", "is_clause", defArgs s_is_clause, defBody s_is_clause, defScope s_is_clause, [], []⟩
def D_is_riddle : He.DefD := ⟨("is_riddle", none), "is_riddle", "is_riddle", defArgs s_is_riddle, defBody s_is_riddle, defScope s_is_riddle, [], []⟩
def D_is_so : He.DefD := ⟨("is_so", none), "is_so", "is_so", defArgs s_is_so, defBody s_is_so, defScope s_is_so, [], []⟩
def D_keeps_clause : He.DefD := ⟨("keeps_clause", none), "keeps_clause", "keeps_clause", defArgs s_keeps_clause, defBody s_keeps_clause, defScope s_keeps_clause, [], []⟩
def D_is_answer : He.DefD := ⟨("is_answer", none), "is_answer", "is_answer", defArgs s_is_answer, defBody s_is_answer, defScope s_is_answer, [], []⟩
def D_keeps : He.DefD := ⟨("keeps", none), "keeps", "keeps", defArgs s_keeps, defBody s_keeps, defScope s_keeps, [], []⟩
def D_all_answers : He.DefD := ⟨("all_answers", none), "all_answers", "all_answers", defArgs s_all_answers, defBody s_all_answers, defScope s_all_answers, [], []⟩
def D_answers : He.DefD := ⟨("answers", none), "answers", "answers", defArgs s_answers, defBody s_answers, defScope s_answers, [], []⟩
def D_is_turning : He.DefD := ⟨("is_turning", none), "is_turning", "is_turning", defArgs s_is_turning, defBody s_is_turning, defScope s_is_turning, [], []⟩
def D_need_turning : He.DefD := ⟨("need_turning", none), "need_turning", "need_turning", defArgs s_need_turning, defBody s_need_turning, defScope s_need_turning, [], []⟩
def D_led_sign : He.DefD := ⟨("led_sign", none), "led_sign", "led_sign", defArgs s_led_sign, defBody s_led_sign, defScope s_led_sign, [], []⟩
def D_led_clause : He.DefD := ⟨("led_clause", none), "led_clause", "led_clause", defArgs s_led_clause, defBody s_led_clause, defScope s_led_clause, [], []⟩
def D_led_riddle : He.DefD := ⟨("led_riddle", none), "led_riddle", "led_riddle", defArgs s_led_riddle, defBody s_led_riddle, defScope s_led_riddle, [], []⟩
def D_led : He.DefD := ⟨("led", none), "led", "led", defArgs s_led, defBody s_led, defScope s_led, [], []⟩
def D_led_bits : He.DefD := ⟨("led_bits", none), "led_bits", "led_bits", defArgs s_led_bits, defBody s_led_bits, defScope s_led_bits, [], []⟩
def D_led_answer : He.DefD := ⟨("led_answer", none), "led_answer", "led_answer", defArgs s_led_answer, defBody s_led_answer, defScope s_led_answer, [], []⟩
def D_behind : He.DefD := ⟨("behind", none), "behind", "behind", defArgs s_behind, defBody s_behind, defScope s_behind, [], []⟩
def D_back : He.DefD := ⟨("back", none), "back", "back", defArgs s_back, defBody s_back, defScope s_back, [], []⟩
def D_still : He.DefD := ⟨("still", none), "still", "still", defArgs s_still, defBody s_still, defScope s_still, [], []⟩
def D_order_of : He.DefD := ⟨("order_of", none), "order_of", "order_of", defArgs s_order_of, defBody s_order_of, defScope s_order_of, [], []⟩
def D__law_cell_at : He.DefD := ⟨("_law_cell_at", none), "_law_cell_at", "_law_cell_at", defArgs s__law_cell_at, defBody s__law_cell_at, defScope s__law_cell_at, [], []⟩
def D__law_state : He.DefD := ⟨("_law_state", none), "_law_state", "_law_state", defArgs s__law_state, defBody s__law_state, defScope s__law_state, [], []⟩
def D__law_take : He.DefD := ⟨("_law_take", none), "_law_take", "_law_take", defArgs s__law_take, defBody s__law_take, defScope s__law_take, [], []⟩
def D__law_turning : He.DefD := ⟨("_law_turning", none), "_law_turning", "_law_turning", defArgs s__law_turning, defBody s__law_turning, defScope s__law_turning, [], []⟩
def D__law_clause : He.DefD := ⟨("_law_clause", none), "_law_clause", "_law_clause", defArgs s__law_clause, defBody s__law_clause, defScope s__law_clause, [], []⟩
def D__law_led_sign : He.DefD := ⟨("_law_led_sign", none), "_law_led_sign", "_law_led_sign", defArgs s__law_led_sign, defBody s__law_led_sign, defScope s__law_led_sign, [], []⟩
def D__law_led_clause : He.DefD := ⟨("_law_led_clause", none), "_law_led_clause", "_law_led_clause", defArgs s__law_led_clause, defBody s__law_led_clause, defScope s__law_led_clause, [], []⟩
def D__law_riddle_of : He.DefD := ⟨("_law_riddle_of", none), "_law_riddle_of", "_law_riddle_of", defArgs s__law_riddle_of, defBody s__law_riddle_of, defScope s__law_riddle_of, [], []⟩
def D__law_bits : He.DefD := ⟨("_law_bits", none), "_law_bits", "_law_bits", defArgs s__law_bits, defBody s__law_bits, defScope s__law_bits, [], []⟩
def D__law_turnings_right : He.DefD := ⟨("_law_turnings_right", none), "_law_turnings_right", "_law_turnings_right", defArgs s__law_turnings_right, defBody s__law_turnings_right, defScope s__law_turnings_right, [], []⟩
def D_law : He.DefD := ⟨("law", none), "law", "law", defArgs s_law, defBody s_law, defScope s_law, [], []⟩
def fn : List He.DefD := [D_is_whole, D_is_between, D_is_clause, D_is_riddle, D_is_so, D_keeps_clause, D_is_answer, D_keeps, D_all_answers, D_answers, D_is_turning, D_need_turning, D_led_sign, D_led_clause, D_led_riddle, D_led, D_led_bits, D_led_answer, D_behind, D_back, D_still, D_order_of, D__law_cell_at, D__law_state, D__law_take, D__law_turning, D__law_clause, D__law_led_sign, D__law_led_clause, D__law_riddle_of, D__law_bits, D__law_turnings_right, D_law]
def fa : List He.Fa := [.glo "is_whole", .glo "is_between", .glo "is_clause", .glo "is_riddle", .glo "is_so", .glo "keeps_clause", .glo "is_answer", .glo "keeps", .glo "all_answers", .glo "answers", .glo "is_turning", .glo "need_turning", .glo "led_sign", .glo "led_clause", .glo "led_riddle", .glo "led", .glo "led_bits", .glo "led_answer", .glo "behind", .glo "back", .glo "still", .glo "order_of", .glo "_law_cell_at", .glo "_law_state", .glo "_law_take", .glo "_law_turning", .glo "_law_clause", .glo "_law_led_sign", .glo "_law_led_clause", .glo "_law_riddle_of", .glo "_law_bits", .glo "_law_turnings_right", .glo "law", .free "abs", .free "all", .free "any", .free "bool", .free "enumerate", .free "int", .free "isinstance", .free "len", .free "list", .free "max", .free "min", .free "range", .free "sorted", .free "tuple", .free "zip", .int "MOST_NAMES" (5), .int "MOST_CLAUSES" (30), .glo "NoTurning", .exc "NoTurning"]
abbrev R : PySem.W.OpenRow := PySem.W.OpenLaw.row PySem.Challenge.rw_twinriddles_k24_whole_turnings
abbrev hk : PySem.W.Hook := He.hookD 4 fa fn
def ob (s : PySem.W.SharedT) : He.AlD := He.obsDG 4 fa fn (HandSHeadRun.getT s)
theorem ob_eq (s : PySem.W.SharedT) : ob s = hk.obs s.abs := He.obsDG_eq (HandSHeadRun.getT_eq s)
def lo : List Str := [("is_whole" : Str), ("is_between" : Str), ("is_clause" : Str), ("is_riddle" : Str), ("is_so" : Str), ("keeps_clause" : Str), ("is_answer" : Str), ("keeps" : Str), ("all_answers" : Str), ("answers" : Str), ("is_turning" : Str), ("need_turning" : Str), ("led_sign" : Str), ("led_clause" : Str), ("led_riddle" : Str), ("led" : Str), ("led_bits" : Str), ("led_answer" : Str), ("behind" : Str), ("back" : Str), ("still" : Str), ("order_of" : Str), ("_law_cell_at" : Str), ("_law_state" : Str), ("_law_take" : Str), ("_law_turning" : Str), ("_law_clause" : Str), ("_law_led_sign" : Str), ("_law_led_clause" : Str), ("_law_riddle_of" : Str), ("_law_bits" : Str), ("_law_turnings_right" : Str), ("MOST_NAMES" : Str), ("MOST_CLAUSES" : Str), ("RiddleError" : Str), ("NoTurning" : Str)]
theorem run (w : World) : HandSHeadRun.RunEq R (PySem.W.view R.prog [40]) hk ob 2000 lo w := by
  intro os
  kernel_rfl
theorem facts {P : Program} {w : World} {K : PySem.W.Frag} {h : Heap} {mg : Str → Option Value} {f : Addr} (X : K.In h) (G : h.Ns mainGlobals mg) (hfa : mg ("law" : Str) = some (.ref f)) (c : He.SaysD fa fn K) :
    ∃ fd : FuncData, (∀ (s : Shared) (v : Value), BindsTo s fd ⟨[v], []⟩ [("_law_script", v)]) ∧ ∀ base : Heap, K.In base → base.Ns mainGlobals mg → FnOk P w K mg base CX0 6 f fd ["_law_script"] (spLaw (K := K)) := by
  obtain ⟨fd_is_whole, F_is_whole⟩ := c.def_ 0 (d := D_is_whole) rfl
  obtain ⟨fd_is_between, F_is_between⟩ := c.def_ 1 (d := D_is_between) rfl
  obtain ⟨fd_is_clause, F_is_clause⟩ := c.def_ 2 (d := D_is_clause) rfl
  obtain ⟨fd_is_riddle, F_is_riddle⟩ := c.def_ 3 (d := D_is_riddle) rfl
  obtain ⟨fd_is_so, F_is_so⟩ := c.def_ 4 (d := D_is_so) rfl
  obtain ⟨fd_keeps_clause, F_keeps_clause⟩ := c.def_ 5 (d := D_keeps_clause) rfl
  obtain ⟨fd_is_answer, F_is_answer⟩ := c.def_ 6 (d := D_is_answer) rfl
  obtain ⟨fd_keeps, F_keeps⟩ := c.def_ 7 (d := D_keeps) rfl
  obtain ⟨fd_all_answers, F_all_answers⟩ := c.def_ 8 (d := D_all_answers) rfl
  obtain ⟨fd_answers, F_answers⟩ := c.def_ 9 (d := D_answers) rfl
  obtain ⟨fd_is_turning, F_is_turning⟩ := c.def_ 10 (d := D_is_turning) rfl
  obtain ⟨fd_need_turning, F_need_turning⟩ := c.def_ 11 (d := D_need_turning) rfl
  obtain ⟨fd_led_sign, F_led_sign⟩ := c.def_ 12 (d := D_led_sign) rfl
  obtain ⟨fd_led_clause, F_led_clause⟩ := c.def_ 13 (d := D_led_clause) rfl
  obtain ⟨fd_led_riddle, F_led_riddle⟩ := c.def_ 14 (d := D_led_riddle) rfl
  obtain ⟨fd_led, F_led⟩ := c.def_ 15 (d := D_led) rfl
  obtain ⟨fd_led_bits, F_led_bits⟩ := c.def_ 16 (d := D_led_bits) rfl
  obtain ⟨fd_led_answer, F_led_answer⟩ := c.def_ 17 (d := D_led_answer) rfl
  obtain ⟨fd_behind, F_behind⟩ := c.def_ 18 (d := D_behind) rfl
  obtain ⟨fd_back, F_back⟩ := c.def_ 19 (d := D_back) rfl
  obtain ⟨fd_still, F_still⟩ := c.def_ 20 (d := D_still) rfl
  obtain ⟨fd_order_of, F_order_of⟩ := c.def_ 21 (d := D_order_of) rfl
  obtain ⟨fd__law_cell_at, F__law_cell_at⟩ := c.def_ 22 (d := D__law_cell_at) rfl
  obtain ⟨fd__law_state, F__law_state⟩ := c.def_ 23 (d := D__law_state) rfl
  obtain ⟨fd__law_take, F__law_take⟩ := c.def_ 24 (d := D__law_take) rfl
  obtain ⟨fd__law_turning, F__law_turning⟩ := c.def_ 25 (d := D__law_turning) rfl
  obtain ⟨fd__law_clause, F__law_clause⟩ := c.def_ 26 (d := D__law_clause) rfl
  obtain ⟨fd__law_led_sign, F__law_led_sign⟩ := c.def_ 27 (d := D__law_led_sign) rfl
  obtain ⟨fd__law_led_clause, F__law_led_clause⟩ := c.def_ 28 (d := D__law_led_clause) rfl
  obtain ⟨fd__law_riddle_of, F__law_riddle_of⟩ := c.def_ 29 (d := D__law_riddle_of) rfl
  obtain ⟨fd__law_bits, F__law_bits⟩ := c.def_ 30 (d := D__law_bits) rfl
  obtain ⟨fd__law_turnings_right, F__law_turnings_right⟩ := c.def_ 31 (d := D__law_turnings_right) rfl
  obtain ⟨fd_law, F_law⟩ := c.def_ 32 (d := D_law) rfl
  have e := hfa.symm.trans (He.glo_ok X G (c.fact 32 (f := .glo "law") rfl))
  cases e
  have T : Txt K mg := {
    n_abs := He.free_ok X G (c.fact 33 (f := .free "abs") rfl)
    n_all := He.free_ok X G (c.fact 34 (f := .free "all") rfl)
    n_any := He.free_ok X G (c.fact 35 (f := .free "any") rfl)
    n_bool := He.free_ok X G (c.fact 36 (f := .free "bool") rfl)
    n_enumerate := He.free_ok X G (c.fact 37 (f := .free "enumerate") rfl)
    n_int := He.free_ok X G (c.fact 38 (f := .free "int") rfl)
    n_isinstance := He.free_ok X G (c.fact 39 (f := .free "isinstance") rfl)
    n_len := He.free_ok X G (c.fact 40 (f := .free "len") rfl)
    n_list := He.free_ok X G (c.fact 41 (f := .free "list") rfl)
    n_max := He.free_ok X G (c.fact 42 (f := .free "max") rfl)
    n_min := He.free_ok X G (c.fact 43 (f := .free "min") rfl)
    n_range := He.free_ok X G (c.fact 44 (f := .free "range") rfl)
    n_sorted := He.free_ok X G (c.fact 45 (f := .free "sorted") rfl)
    n_tuple := He.free_ok X G (c.fact 46 (f := .free "tuple") rfl)
    n_zip := He.free_ok X G (c.fact 47 (f := .free "zip") rfl)
    c_MOST_NAMES := He.int_ok X G (c.fact 48 (f := .int "MOST_NAMES" (5)) rfl)
    c_MOST_CLAUSES := He.int_ok X G (c.fact 49 (f := .int "MOST_CLAUSES" (30)) rfl)
    x_NoTurning := ⟨_, He.glo_ok X G (c.fact 50 (f := .glo "NoTurning") rfl), He.exc_ok (c.fact 51 (f := .exc "NoTurning") rfl)⟩
  }
  have b := FunD.bindsA (ps := ["_law_script"]) F_law fun _ _ _ _ _ _ us hl => match us, hl with | [_], _ => rfl
  refine ⟨fd_law, fun s v => b s [v] rfl, fun base _ _ => ?_⟩
  have G_is_whole := d_is_whole (P := P) (w := w) (base := base) T  F_is_whole (He.glo_ok X G (c.fact 0 (f := .glo "is_whole") rfl))
  have G_is_between := d_is_between (P := P) (w := w) (base := base) T G_is_whole F_is_between (He.glo_ok X G (c.fact 1 (f := .glo "is_between") rfl))
  have G_is_clause := d_is_clause (P := P) (w := w) (base := base) T G_is_between F_is_clause (He.glo_ok X G (c.fact 2 (f := .glo "is_clause") rfl))
  have G_is_riddle := d_is_riddle (P := P) (w := w) (base := base) T G_is_between G_is_clause F_is_riddle (He.glo_ok X G (c.fact 3 (f := .glo "is_riddle") rfl))
  have G_is_so := d_is_so (P := P) (w := w) (base := base) T  F_is_so (He.glo_ok X G (c.fact 4 (f := .glo "is_so") rfl))
  have G_keeps_clause := d_keeps_clause (P := P) (w := w) (base := base) T G_is_so F_keeps_clause (He.glo_ok X G (c.fact 5 (f := .glo "keeps_clause") rfl))
  have G_is_answer := d_is_answer (P := P) (w := w) (base := base) T G_is_between F_is_answer (He.glo_ok X G (c.fact 6 (f := .glo "is_answer") rfl))
  have G_keeps := d_keeps (P := P) (w := w) (base := base) T G_is_answer G_keeps_clause F_keeps (He.glo_ok X G (c.fact 7 (f := .glo "keeps") rfl))
  have G_all_answers := d_all_answers (P := P) (w := w) (base := base) T  F_all_answers (He.glo_ok X G (c.fact 8 (f := .glo "all_answers") rfl))
  have G_answers := d_answers (P := P) (w := w) (base := base) T G_all_answers G_keeps F_answers (He.glo_ok X G (c.fact 9 (f := .glo "answers") rfl))
  have G_is_turning := d_is_turning (P := P) (w := w) (base := base) T G_is_whole F_is_turning (He.glo_ok X G (c.fact 10 (f := .glo "is_turning") rfl))
  have G_need_turning := d_need_turning (P := P) (w := w) (base := base) T G_is_turning F_need_turning (He.glo_ok X G (c.fact 11 (f := .glo "need_turning") rfl))
  have G_led_sign := d_led_sign (P := P) (w := w) (base := base) T  F_led_sign (He.glo_ok X G (c.fact 12 (f := .glo "led_sign") rfl))
  have G_led_clause := d_led_clause (P := P) (w := w) (base := base) T G_led_sign F_led_clause (He.glo_ok X G (c.fact 13 (f := .glo "led_clause") rfl))
  have G_led_riddle := d_led_riddle (P := P) (w := w) (base := base) T G_led_clause F_led_riddle (He.glo_ok X G (c.fact 14 (f := .glo "led_riddle") rfl))
  have G_led := d_led (P := P) (w := w) (base := base) T G_need_turning G_led_riddle F_led (He.glo_ok X G (c.fact 15 (f := .glo "led") rfl))
  have G_led_bits := d_led_bits (P := P) (w := w) (base := base) T  F_led_bits (He.glo_ok X G (c.fact 16 (f := .glo "led_bits") rfl))
  have G_led_answer := d_led_answer (P := P) (w := w) (base := base) T G_need_turning G_led_bits F_led_answer (He.glo_ok X G (c.fact 17 (f := .glo "led_answer") rfl))
  have G_behind := d_behind (P := P) (w := w) (base := base) T G_led_sign F_behind (He.glo_ok X G (c.fact 18 (f := .glo "behind") rfl))
  have G_back := d_back (P := P) (w := w) (base := base) T  F_back (He.glo_ok X G (c.fact 19 (f := .glo "back") rfl))
  have G_still := d_still (P := P) (w := w) (base := base) T  F_still (He.glo_ok X G (c.fact 20 (f := .glo "still") rfl))
  have G_order_of := d_order_of (P := P) (w := w) (base := base) T G_still G_behind F_order_of (He.glo_ok X G (c.fact 21 (f := .glo "order_of") rfl))
  have G__law_cell_at := d__law_cell_at (P := P) (w := w) (base := base) T  F__law_cell_at (He.glo_ok X G (c.fact 22 (f := .glo "_law_cell_at") rfl))
  have G__law_state := d__law_state (P := P) (w := w) (base := base) T G__law_cell_at F__law_state (He.glo_ok X G (c.fact 23 (f := .glo "_law_state") rfl))
  have G__law_take := d__law_take (P := P) (w := w) (base := base) T  F__law_take (He.glo_ok X G (c.fact 24 (f := .glo "_law_take") rfl))
  have G__law_turning := d__law_turning (P := P) (w := w) (base := base) T G__law_take F__law_turning (He.glo_ok X G (c.fact 25 (f := .glo "_law_turning") rfl))
  have G__law_clause := d__law_clause (P := P) (w := w) (base := base) T G__law_take F__law_clause (He.glo_ok X G (c.fact 26 (f := .glo "_law_clause") rfl))
  have G__law_led_sign := d__law_led_sign (P := P) (w := w) (base := base) T  F__law_led_sign (He.glo_ok X G (c.fact 27 (f := .glo "_law_led_sign") rfl))
  have G__law_led_clause := d__law_led_clause (P := P) (w := w) (base := base) T G__law_led_sign F__law_led_clause (He.glo_ok X G (c.fact 28 (f := .glo "_law_led_clause") rfl))
  have G__law_riddle_of := d__law_riddle_of (P := P) (w := w) (base := base) T G__law_turning G__law_take G__law_led_clause G__law_clause F__law_riddle_of (He.glo_ok X G (c.fact 29 (f := .glo "_law_riddle_of") rfl))
  have G__law_bits := d__law_bits (P := P) (w := w) (base := base) T  F__law_bits (He.glo_ok X G (c.fact 30 (f := .glo "_law_bits") rfl))
  have G__law_turnings_right := d__law_turnings_right (P := P) (w := w) (base := base) T G_behind G_still G_is_turning G_order_of G_back G_led_sign F__law_turnings_right (He.glo_ok X G (c.fact 31 (f := .glo "_law_turnings_right") rfl))
  exact law_ok (d_law (P := P) (w := w) (base := base) T G__law_state G__law_riddle_of G_led G__law_bits G__law_take G__law_turning G__law_turnings_right G_answers G_is_riddle G_keeps G_led_answer G_back G_behind G_still F_law hfa) fun ns _ => law_true ns
end
end LW
open PySem PySem.W PySem.Calls PyProof.Rows
theorem PySem.Challenge.cw_twinriddles_k24_whole_turnings_holds : PySem.Challenge.rw_twinriddles_k24_whole_turnings.Holds := by
  w_on; o_law
  refine HandSHeadRun.head_any (r := OpenLaw.row PySem.Challenge.rw_twinriddles_k24_whole_turnings) (q := view (OpenLaw.row PySem.Challenge.rw_twinriddles_k24_whole_turnings).prog [40]) (H := LW.hk) (ob := LW.ob) (M := 2000) (loose := LW.lo) (d := HandSHeadRun.topDef (OpenLaw.row PySem.Challenge.rw_twinriddles_k24_whole_turnings).prog 40) (kwd := []) LW.ob_eq
    (by kernel_rfl) (fun s => by kernel_rfl) LW.run (by kernel_rfl) (by kernel_rfl) (by kernel_rfl) (by rfl) (by first | assumption | decide +kernel) (by decide +kernel) ⟨rfl, rfl, rfl, rfl, rfl, by decide +kernel⟩ ?hw ?hc
  case hw => w_witness2
  case hc =>
    refine L2.walk_ofE (l := PySem.Challenge.rw_twinriddles_k24_whole_turnings) (n := 63) (k := 6) (x := "_law_script") (CX := L2.CX0) rfl (by decide) (by kernel_rfl) ⟨rfl, by decide, by decide⟩ ?F (fun _ _ _ _ z => z)
    intro w mg fa h Y G hmg0
    obtain ⟨K, KX, c⟩ := Y
    have hmg : mg ("law" : PySem.Str) = some (.ref fa) := by
      have e : (HandSHeadRun.topDef (OpenLaw.row PySem.Challenge.rw_twinriddles_k24_whole_turnings).prog 40).name = ("law" : PySem.Str) := by kernel_rfl
      rw [← e]
      exact hmg0
    obtain ⟨fd, hb, hF⟩ := LW.facts (P := (PySem.Challenge.rw_twinriddles_k24_whole_turnings).prog) (w := w) KX G hmg c
    exact ⟨K, fd, VS.spLaw (K := K), KX, hb, fun H a ns hl _ hS => ⟨a, ns, rfl, hl, hS, fun _ => rfl⟩, hF⟩
