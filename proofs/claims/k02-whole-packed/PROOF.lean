import PyProof.Rows.All
import Wide.All
import OpenK.AllK
import Wide.FinOn
import HandS.ForMost
import HandS.ForExc
import HandS.Deep
import HandS.Flow
import HandS.IsInst
import HandS.SortKw
import KE.DataMinMax
import KE.DatumOrd
import HandS.StrMore
import HandS.More
import HandS.ExcIs
import HandS.Strs
import HandS.Style
import HandS.TupAny
import HandS.Codes
import PySem.Challenge.RW_tightrows_k02_whole_packed
set_option Elab.async false
set_option linter.all false
set_option maxRecDepth 100000
set_option maxHeartbeats 4000000
/-! A layer of values over the hand layer: data Dt in, data Dt out; what a piece of code gives is a function on lists of data. -/
namespace VL
open PySem PySem.Spec PyProof.Rows L2

abbrev St := List (Option V)
/-- data: obj c l is an instance that is never written again, its class by number, its fields in order -/
inductive Dt where
  | non | bl (b : Bool) | int (i : Int) | str (s : Str) | lst (l : List Dt) | tup (l : List Dt) | obj (c : Nat) (l : List Dt) | scr (l : List Int) | exc (c : Nat) | dct (ks : List Str) (l : List Dt)

/-- the exceptions' classes, the own classes, their fields -/
structure Cfg where
  cA : Nat → Addr
  oC : Nat → Addr
  oN : Nat → List Str

/-- an exception of the class at C that stands at a -/
def excAt (C a : Addr) : Heap → Prop := fun h => ∃ o, h.get? a = some o ∧ o.cls = .ref C ∧ o.dict = none ∧ ∃ vs, o.data = .fields vs
section
variable (K : PySem.W.Frag) (g : Cfg) (H : Hp)
mutual
/-- the value v tells the data d, in the heap H -/
def Rep : Dt → V → Prop
  | .non, v => v = .non
  | .bl b, v => v = .bl b
  | .int i, v => v = .int i
  | .str s, v => v = .str s
  | .lst l, v => ∃ a vs, v = .ref a ∧ H a = some (.lst vs) ∧ Reps l vs
  | .tup l, v => ∃ a vs, v = .ref a ∧ SqT K H a vs ∧ Reps l vs
  | .obj c l, v => ∃ a dx vs, v = .ref a ∧ H a = some (.ins (g.oC c) dx ((g.oN c).zip vs)) ∧ vs.length = (g.oN c).length ∧ Reps l vs
  | .scr l, v => ∃ a, v = .ref a ∧ SqL K H a (l.map V.int)
  | .exc c, v => ∃ a, v = .ref a ∧ H a = some (.ext (excAt (g.cA c) a))
  | .dct ks l, v => ∃ a vs, v = .ref a ∧ H a = some (.dK ((ks.map Sum.inr).zip vs)) ∧ vs.length = ks.length ∧ Reps l vs
def Reps : List Dt → List V → Prop
  | [], vs => vs = []
  | d :: ds, vs => ∃ v r, vs = v :: r ∧ Rep d v ∧ Reps ds r
end
end

def isFlat : Dt → Bool
  | .non => true
  | .bl _ => true
  | .int _ => true
  | .str _ => true
  | _ => false
/-- the top read in H, what lies below in F -/
def RepC (K : PySem.W.Frag) (g : Cfg) (F H : Hp) : Dt → V → Prop
  | .lst l, v => ∃ a vs, v = .ref a ∧ H a = some (.lst vs) ∧ Reps K g F l vs
  | d, v => Rep K g F d v

section
variable {K : PySem.W.Frag} {g : Cfg} {F F' H H' : Hp}
theorem sqL_mono {a : Addr} {xs : List V} (e : Same H H') (h : SqL K H a xs) : SqL K H' a xs := e.seq h
theorem sqT_mono {a : Addr} {xs : List V} (e : Same H H') (h : SqT K H a xs) : SqT K H' a xs := by
  rcases h with (h | ⟨o, h⟩) | h
  · exact .inl (.inl (e _ _ h))
  · exact .inl (.inr ⟨o, e _ _ h⟩)
  · exact .inr h
mutual
theorem rep_mono (e : Same H H') : ∀ (d : Dt) (v : V), Rep K g H d v → Rep K g H' d v
  | .non, _, h => by simpa [Rep] using h
  | .bl _, _, h => by simpa [Rep] using h
  | .int _, _, h => by simpa [Rep] using h
  | .str _, _, h => by simpa [Rep] using h
  | .lst l, v, h => by
    rw [Rep] at h ⊢
    obtain ⟨a, vs, h1, h2, h3⟩ := h
    exact ⟨a, vs, h1, e _ _ h2, reps_mono e l vs h3⟩
  | .tup l, v, h => by
    rw [Rep] at h ⊢
    obtain ⟨a, vs, h1, h2, h3⟩ := h
    exact ⟨a, vs, h1, sqT_mono e h2, reps_mono e l vs h3⟩
  | .obj c l, v, h => by
    rw [Rep] at h ⊢
    obtain ⟨a, dx, vs, h1, h2, h3, h4⟩ := h
    exact ⟨a, dx, vs, h1, e _ _ h2, h3, reps_mono e l vs h4⟩
  | .scr l, v, h => by
    rw [Rep] at h ⊢
    obtain ⟨a, h1, h2⟩ := h
    exact ⟨a, h1, sqL_mono e h2⟩
  | .exc c, v, h => by
    rw [Rep] at h ⊢
    obtain ⟨a, h1, h2⟩ := h
    exact ⟨a, h1, e _ _ h2⟩
  | .dct ks l, v, h => by
    rw [Rep] at h ⊢
    obtain ⟨a, vs, h1, h2, h3, h4⟩ := h
    exact ⟨a, vs, h1, e _ _ h2, h3, reps_mono e l vs h4⟩
theorem reps_mono (e : Same H H') : ∀ (l : List Dt) (vs : List V), Reps K g H l vs → Reps K g H' l vs
  | [], vs, h => by simpa [Reps] using h
  | d :: ds, vs, h => by
    rw [Reps] at h ⊢
    obtain ⟨v, r, h1, h2, h3⟩ := h
    exact ⟨v, r, h1, rep_mono e d v h2, reps_mono e ds r h3⟩
end
theorem rep_flat {d : Dt} {v : V} (f : isFlat d = true) (h : Rep K g H d v) : Rep K g H' d v := by
  cases d <;> first | (simpa [Rep] using h) | cases f
theorem reps_flat : ∀ {l : List Dt} {vs : List V}, (∀ d ∈ l, isFlat d = true) → Reps K g H l vs → Reps K g H' l vs
  | [], vs, _, h => by simpa [Reps] using h
  | d :: ds, vs, f, h => by
    rw [Reps] at h ⊢
    obtain ⟨v, r, h1, h2, h3⟩ := h
    exact ⟨v, r, h1, rep_flat (f d (by simp)) h2, reps_flat (fun x hx => f x (by simp [hx])) h3⟩
theorem reps_nil : Reps K g H [] [] := by rw [Reps]
theorem reps_cons {d : Dt} {ds : List Dt} {v : V} {vs : List V} (h1 : Rep K g H d v) (h2 : Reps K g H ds vs) : Reps K g H (d :: ds) (v :: vs) := by
  rw [Reps]; exact ⟨v, vs, rfl, h1, h2⟩
theorem reps_len : ∀ {l : List Dt} {vs : List V}, Reps K g H l vs → l.length = vs.length
  | [], vs, h => by rw [Reps] at h; subst h; rfl
  | d :: ds, vs, h => by
    rw [Reps] at h
    obtain ⟨v, r, h1, h2, h3⟩ := h
    subst h1
    simp [reps_len h3]
theorem reps_get : ∀ {l : List Dt} {vs : List V} {i : Nat} {d : Dt}, Reps K g H l vs → l[i]? = some d → ∃ v, vs[i]? = some v ∧ Rep K g H d v
  | [], vs, i, d, h, e => by simp at e
  | x :: ds, vs, i, d, h, e => by
    rw [Reps] at h
    obtain ⟨v, r, h1, h2, h3⟩ := h
    subst h1
    cases i with
    | zero =>
      simp at e
      subst e
      exact ⟨v, rfl, h2⟩
    | succ i =>
      obtain ⟨w, h4, h5⟩ := reps_get (i := i) h3 (by simpa using e)
      exact ⟨w, by simpa using h4, h5⟩
theorem reps_get' : ∀ {l : List Dt} {vs : List V} {i : Nat} {v : V}, Reps K g H l vs → vs[i]? = some v → ∃ d, l[i]? = some d ∧ Rep K g H d v := fun {l vs i v} h e => by
  cases q : l[i]? with
  | none =>
    have h1 := reps_len h
    have h2 : l.length ≤ i := List.getElem?_eq_none_iff.mp q
    have h3 : vs[i]? = none := List.getElem?_eq_none_iff.mpr (by omega)
    rw [h3] at e; cases e
  | some d =>
    obtain ⟨w, h4, h5⟩ := reps_get h q
    rw [e] at h4; cases h4
    exact ⟨d, rfl, h5⟩
theorem reps_append : ∀ {l l' : List Dt} {vs vs' : List V}, Reps K g H l vs → Reps K g H l' vs' → Reps K g H (l ++ l') (vs ++ vs')
  | [], l', vs, vs', h, h' => by
    rw [Reps] at h
    subst h
    exact h'
  | d :: ds, l', vs, vs', h, h' => by
    rw [Reps] at h
    obtain ⟨v, r, h1, h2, h3⟩ := h
    subst h1
    exact reps_cons h2 (reps_append h3 h')
theorem reps_set : ∀ {l : List Dt} {vs : List V} {d : Dt} {v : V} (i : Nat), Reps K g H l vs → Rep K g H d v → Reps K g H (l.set i d) (vs.set i v)
  | [], vs, d, v, i, h, h' => by
    rw [Reps] at h
    subst h
    simpa using reps_nil
  | x :: ds, vs, d, v, i, h, h' => by
    rw [Reps] at h
    obtain ⟨w, r, h1, h2, h3⟩ := h
    subst h1
    cases i with
    | zero => simpa using reps_cons h' h3
    | succ i => simpa using reps_cons h2 (reps_set i h3 h')
theorem reps_take : ∀ {l : List Dt} {vs : List V} (n : Nat), Reps K g H l vs → Reps K g H (l.take n) (vs.take n)
  | l, vs, 0, h => by simpa using reps_nil
  | [], vs, n + 1, h => by
    rw [Reps] at h
    subst h
    simpa using reps_nil
  | d :: ds, vs, n + 1, h => by
    rw [Reps] at h
    obtain ⟨w, r, h1, h2, h3⟩ := h
    subst h1
    simpa using reps_cons h2 (reps_take n h3)
theorem reps_drop : ∀ {l : List Dt} {vs : List V} (n : Nat), Reps K g H l vs → Reps K g H (l.drop n) (vs.drop n)
  | l, vs, 0, h => by simpa using h
  | [], vs, n + 1, h => by
    rw [Reps] at h
    subst h
    simpa using reps_nil
  | d :: ds, vs, n + 1, h => by
    rw [Reps] at h
    obtain ⟨w, r, h1, h2, h3⟩ := h
    subst h1
    simpa using reps_drop n h3
theorem rep_repC (s : Same F H) : ∀ {d : Dt} {v : V}, Rep K g F d v → RepC K g F H d v
  | .non, _, h => h
  | .bl _, _, h => h
  | .int _, _, h => h
  | .str _, _, h => h
  | .lst l, v, h => by
    rw [Rep] at h
    obtain ⟨a, vs, h1, h2, h3⟩ := h
    exact ⟨a, vs, h1, s _ _ h2, h3⟩
  | .tup l, v, h => h
  | .obj c l, v, h => h
  | .scr l, v, h => h
  | .exc c, v, h => h
  | .dct ks l, v, h => h
theorem repC_rep (s : Same F H) : ∀ {d : Dt} {v : V}, RepC K g F H d v → Rep K g H d v
  | .non, _, h => by simpa [Rep, RepC] using h
  | .bl _, _, h => by simpa [Rep, RepC] using h
  | .int _, _, h => by simpa [Rep, RepC] using h
  | .str _, _, h => by simpa [Rep, RepC] using h
  | .lst l, v, h => by
    obtain ⟨a, vs, h1, h2, h3⟩ := h
    rw [Rep]
    exact ⟨a, vs, h1, h2, reps_mono s l vs h3⟩
  | .tup l, v, h => rep_mono s _ _ h
  | .obj c l, v, h => rep_mono s _ _ h
  | .scr l, v, h => rep_mono s _ _ h
  | .exc c, v, h => rep_mono s _ _ h
  | .dct ks l, v, h => rep_mono s _ _ h
theorem repC_mono (sF : Same F F') (sH : Same H H') : ∀ {d : Dt} {v : V}, RepC K g F H d v → RepC K g F' H' d v
  | .non, _, h => rep_mono sF _ _ h
  | .bl _, _, h => rep_mono sF _ _ h
  | .int _, _, h => rep_mono sF _ _ h
  | .str _, _, h => rep_mono sF _ _ h
  | .lst l, v, h => by
    obtain ⟨a, vs, h1, h2, h3⟩ := h
    exact ⟨a, vs, h1, sH _ _ h2, reps_mono sF l vs h3⟩
  | .tup l, v, h => rep_mono sF _ _ h
  | .obj c l, v, h => rep_mono sF _ _ h
  | .scr l, v, h => rep_mono sF _ _ h
  | .exc c, v, h => rep_mono sF _ _ h
  | .dct ks l, v, h => rep_mono sF _ _ h
theorem repC_flat {d : Dt} {v : V} (f : isFlat d = true) (h : RepC K g F H d v) : Rep K g F' d v := by
  cases d <;> first | (simpa [Rep, RepC] using h) | cases f
theorem repC_int {i : Int} {v : V} (h : RepC K g F H (.int i) v) : v = .int i := by simpa [Rep, RepC] using h
theorem repC_str {i : Str} {v : V} (h : RepC K g F H (.str i) v) : v = .str i := by simpa [Rep, RepC] using h
theorem repC_bl {i : Bool} {v : V} (h : RepC K g F H (.bl i) v) : v = .bl i := by simpa [Rep, RepC] using h
theorem repC_non {v : V} (h : RepC K g F H .non v) : v = .non := by simpa [Rep, RepC] using h
theorem rep_int {i : Int} : Rep K g F (.int i) (.int i) := by simp [Rep]
theorem rep_str {i : Str} : Rep K g F (.str i) (.str i) := by simp [Rep]
theorem rep_bl {i : Bool} : Rep K g F (.bl i) (.bl i) := by simp [Rep]
theorem rep_non : Rep K g F .non .non := by simp [Rep]
end

/-- the heap and the frozen part have grown; what is newly frozen is new -/
structure Ext (F H F' H' : Hp) : Prop where
  f : Same F F'
  h : Same H H'
  n : ∀ (a : Addr) (o : HO), F' a = some o → F a = some o ∨ H a = none
theorem Ext.refl (F H : Hp) : Ext F H F H := ⟨fun _ _ z => z, fun _ _ z => z, fun _ _ z => .inl z⟩
theorem Ext.trans {F H F1 H1 F2 H2 : Hp} (a : Ext F H F1 H1) (b : Ext F1 H1 F2 H2) : Ext F H F2 H2 := ⟨a.f.trans b.f, a.h.trans b.h, fun c o e => by
  rcases b.n c o e with q | q
  · exact a.n c o q
  · exact .inr (a.h.free q)⟩
inductive Kd where
  | fz | own | ct
inductive SK where
  | un | fz | own | me | bo
structure Base where
  H : Hp
  F : Hp
  me : Option Addr
/-- a list that nothing else knows -/
def Own (K : PySem.W.Frag) (g : Cfg) (B : Base) (F H : Hp) (d : Dt) (v : V) : Prop := ∃ p vs l, v = .ref p ∧ d = .lst l ∧ H p = some (.lst vs) ∧ F p = none ∧ B.H p = none ∧ Reps K g F l vs
/-- the object at p tells d, its fields are frozen, it is not -/
def MeAt (K : PySem.W.Frag) (g : Cfg) (F H : Hp) (p : Addr) (d : Dt) : Prop := ∃ c st dx vs, d = .obj c st ∧ H p = some (.ins (g.oC c) dx ((g.oN c).zip vs)) ∧ vs.length ≤ (g.oN c).length ∧ Reps K g F st vs ∧ F p = none
def SlotOk (K : PySem.W.Frag) (g : Cfg) (B : Base) (F H : Hp) : SK → Dt → Option V → Prop
  | .un, _, _ => True
  | .fz, d, o => ∃ v, o = some v ∧ Rep K g F d v
  | .own, d, o => ∃ v, o = some v ∧ Own K g B F H d v
  | .me, d, o => ∃ p, B.me = some p ∧ o = some (.ref p) ∧ MeAt K g F H p d
  | .bo, d, o => ∃ q ws l, o = some (.ref q) ∧ d = .lst l ∧ B.H q = some (.lst ws) ∧ Reps K g F l ws
/-- the state: F what is frozen; O how each slot stands; ρ the slots' data -/
structure Good (K : PySem.W.Frag) (g : Cfg) (B : Base) (O : List SK) (F : Hp) (ρ : List Dt) (σ : St) (H : Hp) : Prop where
  lenO : O.length = σ.length
  lenR : ρ.length = σ.length
  b0 : Same B.H H
  bF : Same B.F F
  sub : Same F H
  new : ∀ (a : Addr) (o : HO), F a = some o → B.F a = some o ∨ B.H a = none
  slot : ∀ (i : Nat) (k : SK) (d : Dt) (o : Option V), O[i]? = some k → ρ[i]? = some d → σ[i]? = some o → SlotOk K g B F H k d o
  apart : ∀ (i j : Nat) (p : Addr), O[i]? = some SK.own → O[j]? = some SK.own → σ[i]? = some (some (V.ref p)) → σ[j]? = some (some (V.ref p)) → i = j

section
variable {K : PySem.W.Frag} {g : Cfg} {B : Base} {O : List SK} {F F' H H' : Hp} {ρ : List Dt} {σ : St} {d : Dt} {v : V}
theorem MeAt.mono {p : Addr} (sF : Same F F') (sH : Same H H') (hp : F' p = none) (h : MeAt K g F H p d) : MeAt K g F' H' p d := by
  obtain ⟨c, st, dx, vs, h1, h2, h3, h4, h5⟩ := h
  exact ⟨c, st, dx, vs, h1, sH _ _ h2, h3, reps_mono sF _ _ h4, hp⟩
theorem MeAt.ne {p q : Addr} {vs : List V} (h : MeAt K g F H p d) (e : H q = some (.lst vs)) : p ≠ q := fun z => by
  obtain ⟨c, st, dx, vs, h1, h2, h3, h4, h5⟩ := h
  rw [z, e] at h2; cases h2
theorem MeAt.there {p : Addr} (h : MeAt K g F H p d) : H p ≠ none := fun z => by
  obtain ⟨c, st, dx, vs, h1, h2, h3, h4, h5⟩ := h
  rw [z] at h2; cases h2
theorem MeAt.nF {p : Addr} (h : MeAt K g F H p d) : F p = none := by
  obtain ⟨c, st, dx, vs, h1, h2, h3, h4, h5⟩ := h
  exact h5
theorem own_mono (sF : Same F F') (sH : Same H H') (hp : ∀ p, v = .ref p → F' p = none) (h : Own K g B F H d v) : Own K g B F' H' d v := by
  obtain ⟨p, vs, l, h1, h2, h3, h4, h5, h6⟩ := h
  exact ⟨p, vs, l, h1, h2, sH _ _ h3, hp p h1, h5, reps_mono sF _ _ h6⟩
/-- the heap and the frozen part grow; what is newly frozen is new -/
theorem Good.grow (G : Good K g B O F ρ σ H) (sF : Same F F') (sH : Same H H') (sub : Same F' H') (new : ∀ a o, F' a = some o → F a = some o ∨ H a = none) : Good K g B O F' ρ σ H' where
  lenO := G.lenO
  lenR := G.lenR
  b0 := G.b0.trans sH
  bF := G.bF.trans sF
  sub := sub
  new := fun a o e => by
    rcases new a o e with q | q
    · exact G.new a o q
    · exact .inr (G.b0.free q)
  slot := fun i k d o h1 h2 h3 => by
    have q := G.slot i k d o h1 h2 h3
    cases k with
    | un => trivial
    | fz => obtain ⟨v, e, r⟩ := q; exact ⟨v, e, rep_mono sF _ _ r⟩
    | own =>
      obtain ⟨v, e, r⟩ := q
      refine ⟨v, e, own_mono sF sH (fun p hp => ?_) r⟩
      obtain ⟨p', vs, l, h1, h2, h3, h4, h5, h6⟩ := r
      rw [hp] at h1; cases h1
      cases q : F' p with
      | none => rfl
      | some o =>
        rcases new p o q with z | z
        · rw [h4] at z; cases z
        · rw [h3] at z; cases z
    | me =>
      obtain ⟨p, e1, e2, m⟩ := q
      refine ⟨p, e1, e2, m.mono sF sH ?_⟩
      cases q : F' p with
      | none => rfl
      | some o =>
        rcases new p o q with z | z
        · rw [m.nF] at z; cases z
        · exact absurd z m.there
    | bo =>
      obtain ⟨q, ws, l, e1, e2, e3, e4⟩ := q
      exact ⟨q, ws, l, e1, e2, e3, reps_mono sF _ _ e4⟩
  apart := G.apart
theorem same_upd {p : Addr} {o : HO} (h : H p = none) : Same H (upd H p o) := fun b u e => by
  rw [upd_ne (ne_of_none e h)]; exact e
theorem Good.fnone (G : Good K g B O F ρ σ H) {p : Addr} (h : H p = none) : F p = none := G.sub.free h
/-- a new object, not frozen -/
theorem Good.alloc (G : Good K g B O F ρ σ H) {p : Addr} {o : HO} (h : H p = none) : Good K g B O F ρ σ (upd H p o) :=
  G.grow (fun _ _ z => z) (same_upd h) (G.sub.trans (same_upd h)) fun _ _ z => .inl z
/-- a new object, frozen -/
theorem Good.allocF (G : Good K g B O F ρ σ H) {p : Addr} {o : HO} (h : H p = none) : Good K g B O (upd F p o) ρ σ (upd H p o) := by
  refine G.grow (same_upd (G.fnone h)) (same_upd h) (fun a u e => ?_) fun a u e => ?_
  · by_cases ha : a = p
    · subst ha; rw [upd_same] at e ⊢; exact e
    · rw [upd_ne ha] at e ⊢; exact G.sub _ _ e
  · by_cases ha : a = p
    · subst ha; exact .inr h
    · rw [upd_ne ha] at e; exact .inl e
/-- an own list is frozen -/
theorem Good.freeze (G : Good K g B O F ρ σ H) {p : Addr} {vs : List V} (h : H p = some (.lst vs)) (hF : F p = none) (hB : B.H p = none) (ap : ∀ i : Nat, O[i]? = some SK.own → σ[i]? ≠ some (some (V.ref p))) : Good K g B O (upd F p (.lst vs)) ρ σ H where
  lenO := G.lenO
  lenR := G.lenR
  b0 := G.b0
  bF := G.bF.trans (same_upd hF)
  sub := fun a u e => by
    by_cases ha : a = p
    · subst ha; rw [upd_same] at e; rw [h]; exact e
    · rw [upd_ne ha] at e; exact G.sub _ _ e
  new := fun a o e => by
    by_cases ha : a = p
    · subst ha; exact .inr hB
    · rw [upd_ne ha] at e; exact G.new a o e
  slot := fun i k d o h1 h2 h3 => by
    have q := G.slot i k d o h1 h2 h3
    cases k with
    | un => trivial
    | fz => obtain ⟨v, e, r⟩ := q; exact ⟨v, e, rep_mono (same_upd hF) _ _ r⟩
    | own =>
      obtain ⟨v, e, r⟩ := q
      refine ⟨v, e, own_mono (same_upd hF) (fun _ _ z => z) (fun p' hp' => ?_) r⟩
      obtain ⟨p'', vs', l, h1', h2', h3', h4', h5', h6'⟩ := r
      rw [hp'] at h1'; cases h1'
      have ne : p' ≠ p := fun z => by subst z; exact ap i h1 (by rw [h3, e, hp'])
      rw [upd_ne ne]; exact h4'
    | me =>
      obtain ⟨q', e1, e2, m⟩ := q
      exact ⟨q', e1, e2, m.mono (same_upd hF) (fun _ _ z => z) (by rw [upd_ne (m.ne h)]; exact m.nF)⟩
    | bo =>
      obtain ⟨q, ws, l, e1, e2, e3, e4⟩ := q
      exact ⟨q, ws, l, e1, e2, e3, reps_mono (same_upd hF) _ _ e4⟩
  apart := G.apart

def ResOk (K : PySem.W.Frag) (g : Cfg) (B : Base) (O : List SK) (H0 : Hp) (F : Hp) (σ : St) (H : Hp) : Kd → Dt → V → Prop
  | .fz, d, v => Rep K g F d v
  | .ct, d, v => RepC K g F H d v
  | .own, d, v => Own K g B F H d v ∧ (∀ i : Nat, O[i]? = some SK.own → σ[i]? ≠ some (some v)) ∧ ∀ p, v = .ref p → H0 p = none
end

section
variable {K : PySem.W.Frag} {g : Cfg} {B : Base} {O : List SK} {H0 F H : Hp} {σ : St}
theorem ok_int {i : Int} : ResOk K g B O H0 F σ H .fz (.int i) (.int i) := rep_int (K := K) (g := g) (F := F)
theorem ok_str {i : Str} : ResOk K g B O H0 F σ H .fz (.str i) (.str i) := rep_str (K := K) (g := g) (F := F)
theorem ok_bl {i : Bool} : ResOk K g B O H0 F σ H .fz (.bl i) (.bl i) := rep_bl (K := K) (g := g) (F := F)
theorem ok_non : ResOk K g B O H0 F σ H .fz .non .non := rep_non (K := K) (g := g) (F := F)
end
abbrev R (α : Type) := Option (Except Nat α)
def rbind {α β : Type} (x : R α) (k : α → R β) : R β := match x with
  | none => none
  | some (.error c) => some (.error c)
  | some (.ok a) => k a
def rok {α : Type} (a : α) : R α := some (.ok a)
@[simp] theorem rbind_ok {α β : Type} (a : α) (k : α → R β) : rbind (rok a) k = k a := rfl
@[simp] theorem rbind_ok' {α β : Type} (a : α) (k : α → R β) : rbind (some (.ok a)) k = k a := rfl
@[simp] theorem rbind_none {α β : Type} (k : α → R β) : rbind none k = none := rfl
@[simp] theorem rbind_error {α β : Type} (c : Nat) (k : α → R β) : rbind (some (.error c)) k = some (.error c) := rfl
theorem rbind_assoc {α β γ : Type} (x : R α) (k : α → R β) (m : β → R γ) : rbind (rbind x k) m = rbind x fun a => rbind (k a) m := by
  rcases x with _ | (c | a) <;> rfl

def PostX {α : Type} (er : Nat → Prop) (r : R α) (ok : α → Prop) : Prop := match r with
  | none => False
  | some (.error c) => er c
  | some (.ok a) => ok a
theorem PostX.mono {α : Type} {er er' : Nat → Prop} {r : R α} {ok ok' : α → Prop} (h : PostX er r ok) (he : ∀ c, er c → er' c) (ho : ∀ a, r = some (.ok a) → ok a → ok' a) : PostX er' r ok' := by
  rcases r with _ | (c | a)
  · exact h
  · exact he c h
  · exact ho a rfl h
theorem PostX.bind {α β : Type} {er : Nat → Prop} {r : R α} {k : α → R β} {ok : β → Prop} (h : PostX er (rbind r k) ok) : PostX er r fun a => PostX er (k a) ok := by
  rcases r with _ | (c | a) <;> exact h

abbrev ErW (g : Cfg) (W : WX) (B : Base) : Nat → Prop := fun c => ∀ σ' H', Same B.H H' → W (.ref (g.cA c)) none σ' H'
/-- a raise within an expression: the slots stand -/
abbrev ErE (K : PySem.W.Frag) (g : Cfg) (W : WX) (B : Base) (O : List SK) (F : Hp) (ρ : List Dt) (σ : St) : Nat → Prop := fun c => ∀ F' H', Good K g B O F' ρ σ H' → Same F F' → W (.ref (g.cA c)) none σ H'
theorem erW {K : PySem.W.Frag} {g : Cfg} {W : WX} {B : Base} {O : List SK} {F : Hp} {ρ : List Dt} {σ : St} {c : Nat} (z : ErW g W B c) : ErE K g W B O F ρ σ c := fun F' H' G _ => z σ H' G.b0
theorem erM {K : PySem.W.Frag} {g : Cfg} {W : WX} {B : Base} {O : List SK} {F F' : Hp} {ρ : List Dt} {σ : St} {c : Nat} (x : Same F F') (z : ErE K g W B O F ρ σ c) : ErE K g W B O F' ρ σ c := fun F2 H2 G s => z F2 H2 G (x.trans s)
def Post (K : PySem.W.Frag) (g : Cfg) (W : WX) (B : Base) (O : List SK) (kd : Kd) (r : R Dt) (F : Hp) (ρ : List Dt) (σ : St) (H : Hp) (Q : VK) : Prop :=
  PostX (ErE K g W B O F ρ σ) r fun d => ∀ v F' H', Good K g B O F' ρ σ H' → Ext F H F' H' → ResOk K g B O H F' σ H' kd d v → Q v H'
def tE (K : PySem.W.Frag) (g : Cfg) (W : WX) (B : Base) (O : List SK) (kd : Kd) (f : List Dt → R Dt) : TE := fun σ H Q => ∃ F ρ, Good K g B O F ρ σ H ∧ Post K g W B O kd (f ρ) F ρ σ H Q
def VE (X : Cx) (g : Cfg) (W : WX) (B : Base) (O : List SK) (kd : Kd) (e : Expr) (f : List Dt → R Dt) : Prop := PE X e (tE X.K g W B O kd f)
def tT (K : PySem.W.Frag) (g : Cfg) (W : WX) (B : Base) (O : List SK) (f : List Dt → R Bool) : TT := fun σ H Q => ∃ F ρ, Good K g B O F ρ σ H ∧
  PostX (ErE K g W B O F ρ σ) (f ρ) fun b => ∀ F' H', Good K g B O F' ρ σ H' → Ext F H F' H' → Q b H'
def VT (X : Cx) (g : Cfg) (W : WX) (B : Base) (O : List SK) (e : Expr) (f : List Dt → R Bool) : Prop := PT X e (tT X.K g W B O f)
def VW (X : Cx) (g : Cfg) (W : WX) (B : Base) (O : List SK) (e : Expr) (f : List Dt → R Bool) : Prop := PW X e (tT X.K g W B O f)
def RepsC (K : PySem.W.Frag) (g : Cfg) (F H : Hp) : List Dt → List V → Prop
  | [], vs => vs = []
  | d :: ds, vs => ∃ v r, vs = v :: r ∧ RepC K g F H d v ∧ RepsC K g F H ds r
inductive AK where
  | fz | ct
def ArgsOk (K : PySem.W.Frag) (g : Cfg) (F H : Hp) : AK → List Dt → List V → Prop
  | .fz => Reps K g F
  | .ct => RepsC K g F H
def tA (K : PySem.W.Frag) (g : Cfg) (W : WX) (B : Base) (O : List SK) (ak : AK) (f : List Dt → R (List Dt)) : TA := fun σ H Q => ∃ F ρ, Good K g B O F ρ σ H ∧
  PostX (ErE K g W B O F ρ σ) (f ρ) fun ds => ∀ vs F' H', Good K g B O F' ρ σ H' → Ext F H F' H' → ArgsOk K g F' H' ak ds vs → Q vs H'
def VA (X : Cx) (g : Cfg) (W : WX) (B : Base) (O : List SK) (ak : AK) (es : List Expr) (f : List Dt → R (List Dt)) : Prop := PA X es (tA X.K g W B O ak f)

section
variable {X : Cx} {e : Expr} {es : List Expr}
theorem pe_imp {t t' : TE} (h : PE X e t) (k : ∀ σ H Q, t' σ H Q → t σ H Q) : PE X e t' := ⟨fun pins s σ H Q I q => h.run pins s σ H Q I (k _ _ _ q)⟩
theorem pt_imp {t t' : TT} (h : PT X e t) (k : ∀ σ H Q, t' σ H Q → t σ H Q) : PT X e t' := ⟨fun pins s σ H Q I q => h.run pins s σ H Q I (k _ _ _ q)⟩
theorem pw_imp {t t' : TT} (h : PW X e t) (k : ∀ σ H Q, t' σ H Q → t σ H Q) : PW X e t' := ⟨fun wh pins s σ H Q I q => h.run wh pins s σ H Q I (k _ _ _ q)⟩
theorem pa_imp {t t' : TA} (h : PA X es t) (k : ∀ σ H Q, t' σ H Q → t σ H Q) : PA X es t' := ⟨fun pos pins s σ H Q I q => h.run pos pins s σ H Q I (k _ _ _ q)⟩
theorem ps_imp {st : Stmt} {t t' : TS} (h : PS X st t) (k : ∀ D σ H, t' D σ H → t D σ H) : PS X st t' := ⟨fun pins s σ H D I q => h.run pins s σ H D I (k _ _ _ q)⟩
theorem pss_imp {st : List Stmt} {t t' : TS} (h : PSs X st t) (k : ∀ D σ H, t' D σ H → t D σ H) : PSs X st t' := ⟨fun pins s σ H D I q => h.run pins s σ H D I (k _ _ _ q)⟩
theorem pi_imp {tg : Expr} {t t' : TI} (h : PI X tg e t) (k : ∀ σ H R, t' σ H R → t σ H R) : PI X tg e t' := ⟨fun pins s σ H Q I q => h.run pins s σ H Q I (k _ _ _ q)⟩
end

section
variable {X : Cx} {g : Cfg} {W : WX} {B : Base} {O : List SK} {e a b : Expr} {es : List Expr} {f f1 f2 : List Dt → R Dt} {pos : Pos} {kd : Kd}
theorem post_ok {d : Dt} {F : Hp} {ρ : List Dt} {σ : St} {H : Hp} {Q : VK} {v : V} (G : Good X.K g B O F ρ σ H) (h : Post X.K g W B O kd (some (.ok d)) F ρ σ H Q) (r : ResOk X.K g B O H F σ H kd d v) : Q v H :=
  h v F H G (Ext.refl _ _) r
theorem post_at {r : R Dt} {F F' : Hp} {ρ : List Dt} {σ : St} {H H' : Hp} {Q : VK} {K : PySem.W.Frag} (x : Ext F H F' H') (h : Post K g W B O kd r F ρ σ H Q) : Post K g W B O kd r F' ρ σ H' Q :=
  PostX.mono h (fun _ z => erM x.f z) fun d _ q v F2 H2 G x2 r => q v F2 H2 G (x.trans x2) (by
    cases kd with
    | fz => exact r
    | ct => exact r
    | own => exact ⟨r.1, r.2.1, fun p hp => x.h.free (r.2.2 p hp)⟩)
/-- evaluate, then go on -/
theorem tE_then {β : Type} {K : PySem.W.Frag} {kd1 : Kd} {k : Dt → R β} {ok : β → Prop} {F : Hp} {ρ : List Dt} {σ : St} {H : Hp} {Q : VK} (G : Good K g B O F ρ σ H) {er : Nat → Prop} (h : PostX er (rbind (f ρ) k) ok)
    (c : ∀ d v F' H', f ρ = some (.ok d) → Good K g B O F' ρ σ H' → Ext F H F' H' → ResOk K g B O H F' σ H' kd1 d v → PostX er (k d) ok → Q v H') (he : ∀ c, er c → ErE K g W B O F ρ σ c := by first | exact fun _ z => z | exact fun _ z => erW z | exact fun _ z => erM (Ext.f (by assumption)) z | exact fun _ z => erM (Ext.f (Ext.trans (by assumption) (by assumption))) z) : tE K g W B O kd1 f σ H Q :=
  ⟨F, ρ, G, PostX.mono (PostX.bind h) he fun d e q v F' H' G' x r => c d v F' H' e G' x r q⟩

/-! names, constants -/
def dVar (i : Nat) : List Dt → R Dt := fun ρ => (ρ[i]?).map Except.ok
def dC (d : Dt) : List Dt → R Dt := fun _ => rok d
theorem slot_there {K : PySem.W.Frag} {F : Hp} {ρ : List Dt} {σ : St} {H : Hp} {i : Nat} {k : SK} (G : Good K g B O F ρ σ H) (h : O[i]? = some k) : ∃ d o, ρ[i]? = some d ∧ σ[i]? = some o ∧ SlotOk K g B F H k d o := by
  have h1 : i < O.length := (List.getElem?_eq_some_iff.mp h).1
  have h2 : i < σ.length := by rw [← G.lenO]; exact h1
  have h3 : i < ρ.length := by rw [G.lenR]; exact h2
  exact ⟨ρ[i], σ[i], List.getElem?_eq_getElem h3, List.getElem?_eq_getElem h2, G.slot i k _ _ h (List.getElem?_eq_getElem h3) (List.getElem?_eq_getElem h2)⟩
theorem v_var (i : Nat) {x : Str} (hO : O[i]? = some .fz := by rfl) (hN : X.N[i]? = some x := by rfl) (hv : Vis X.env.scope x := by first | exact Or.inl rfl | exact Or.inr (Or.inl rfl) | exact Or.inr (Or.inr rfl)) (hd : (x == ("__debug__" : Str)) = false := by decide)
    (hcd : (x == ("__classdict__" : Str)) = false := by decide) : VE X g W B O .fz (.Name x pos) (dVar i) :=
  pe_imp (pe_var hN hv hd hcd) fun σ H Q ⟨F, ρ, G, P⟩ => by
    obtain ⟨d, o, h1, h2, v, h3, h4⟩ := slot_there G hO
    subst h3
    have e : dVar i ρ = some (.ok d) := by unfold dVar; rw [h1]; rfl
    rw [e] at P
    exact ⟨v, h2, post_ok G P h4⟩
theorem v_varO (i : Nat) {x : Str} (hO : O[i]? = some .own := by rfl) (hN : X.N[i]? = some x := by rfl) (hv : Vis X.env.scope x := by first | exact Or.inl rfl | exact Or.inr (Or.inl rfl) | exact Or.inr (Or.inr rfl)) (hd : (x == ("__debug__" : Str)) = false := by decide)
    (hcd : (x == ("__classdict__" : Str)) = false := by decide) : VE X g W B O .ct (.Name x pos) (dVar i) :=
  pe_imp (pe_var hN hv hd hcd) fun σ H Q ⟨F, ρ, G, P⟩ => by
    obtain ⟨d, o, h1, h2, v, h3, h4⟩ := slot_there G hO
    subst h3
    have e : dVar i ρ = some (.ok d) := by unfold dVar; rw [h1]; rfl
    rw [e] at P
    obtain ⟨p, vs, l, e1, e2, e3, e4, e5, e6⟩ := h4
    subst e1 e2
    exact ⟨_, h2, post_ok G P ⟨p, vs, rfl, e3, e6⟩⟩
theorem v_int {i : Int} {j : Nat} : VE X g W B O .fz (.Constant (.int i) j pos) (dC (.int i)) := pe_imp pe_int fun σ H Q ⟨F, ρ, G, P⟩ => post_ok G P ok_int
theorem v_str {i : Str} {j : Nat} : VE X g W B O .fz (.Constant (.str i) j pos) (dC (.str i)) := pe_imp pe_str fun σ H Q ⟨F, ρ, G, P⟩ => post_ok G P ok_str
theorem v_bl {i : Bool} {j : Nat} : VE X g W B O .fz (.Constant (.bool i) j pos) (dC (.bl i)) := pe_imp pe_bl fun σ H Q ⟨F, ρ, G, P⟩ => post_ok G P ok_bl
theorem v_non {j : Nat} : VE X g W B O .fz (.Constant .none j pos) (dC .non) := pe_imp pe_non fun σ H Q ⟨F, ρ, G, P⟩ => post_ok G P ok_non
/-- a module's constant: an int, a text, or a tuple of texts .. that the written part holds -/
theorem v_glob {x : Str} {v : V} {u : Value} {d : Dt} (hg : Gl X x) (hm : X.mg x = some u) (r : RelV v u) (hr : ∀ F, Rep X.K g F d v) (hd : (x == ("__debug__" : Str)) = false := by decide) : VE X g W B O .fz (.Name x pos) (dC d) :=
  pe_imp (pe_glob hg hm r hd) fun σ H Q ⟨F, ρ, G, P⟩ => post_ok G P (hr F)
/-! from kind to kind -/
theorem v_ct (h : VE X g W B O .fz e f) : VE X g W B O .ct e f := pe_imp h fun σ H Q ⟨F, ρ, G, P⟩ =>
  ⟨F, ρ, G, PostX.mono P (fun _ z => z) fun d _ q v F' H' G' x r => q v F' H' G' x (rep_repC G'.sub r)⟩
theorem v_fz (h : VE X g W B O .own e f) : VE X g W B O .fz e f := pe_imp h fun σ H Q ⟨F, ρ, G, P⟩ =>
  ⟨F, ρ, G, PostX.mono P (fun _ z => z) fun d _ q v F' H' G' x r => by
    obtain ⟨⟨p, vs, l, e1, e2, e3, e4, e5, e6⟩, ap, fr⟩ := r
    subst e1 e2
    refine q _ _ H' (G'.freeze e3 e4 e5 ap) ⟨x.f.trans (same_upd e4), x.h, fun a o e => ?_⟩ ?_
    · by_cases ha : a = p
      · subst ha; exact .inr (fr _ rfl)
      · rw [upd_ne ha] at e; exact x.n a o e
    show Rep _ _ _ _ _
    rw [Rep]
    exact ⟨p, vs, rfl, upd_same, reps_mono (same_upd e4) _ _ e6⟩⟩
end
end VL

set_option Elab.async false
set_option linter.all false
set_option maxRecDepth 100000
set_option maxHeartbeats 4000000
namespace VL
open PySem PySem.Spec PyProof.Rows L2

/-! ### data as the library's data -/
mutual
def toPy : Dt → PyData
  | .non => .none
  | .bl b => .bool b
  | .int i => .int i
  | .str s => .str s
  | .lst l => .list (toPys l)
  | .tup l => .tuple (toPys l)
  | .obj _ _ => .none
  | .scr _ => .none
  | .exc _ => .none
  | .dct _ _ => .none
def toPys : List Dt → List PyData
  | [] => []
  | d :: ds => toPy d :: toPys ds
end
theorem toPys_map : ∀ l : List Dt, toPys l = l.map toPy
  | [] => by simp [toPys]
  | d :: ds => by simp [toPys, toPys_map ds]
/-- plain data, at most n deep -/
def okN : Nat → Dt → Bool
  | _, .non => true
  | _, .bl _ => true
  | _, .int _ => true
  | _, .str s => PyData.strOk s
  | n + 1, .lst l => l.all (okN n)
  | n + 1, .tup l => l.all (okN n)
  | _, _ => false
theorem toPys_ok {n : Nat} (ih : ∀ d, okN n d = true → (toPy d).canLay0 = true ∧ (toPy d).depth ≤ n) : ∀ l : List Dt, l.all (okN n) = true → PyData.canLayAll0 (toPys l) = true ∧ PyData.depthAll (toPys l) ≤ n
  | [], _ => by simp [toPys, PyData.canLayAll0, PyData.depthAll]
  | d :: ds, h => by
    simp only [List.all_cons, Bool.and_eq_true] at h
    obtain ⟨h1, h2⟩ := ih d h.1
    obtain ⟨h3, h4⟩ := toPys_ok ih ds h.2
    simp only [toPys, PyData.canLayAll0, PyData.depthAll, h1, h3, Bool.and_true, true_and]
    omega
theorem toPy_ok : ∀ (n : Nat) (d : Dt), okN n d = true → (toPy d).canLay0 = true ∧ (toPy d).depth ≤ n
  | n, .non, _ => by simp [toPy, PyData.canLay0, PyData.depth]
  | n, .bl _, _ => by simp [toPy, PyData.canLay0, PyData.depth]
  | n, .int _, _ => by simp [toPy, PyData.canLay0, PyData.depth]
  | n, .str s, h => by
    have h' : PyData.strOk s = true := by cases n <;> exact h
    simp [toPy, PyData.canLay0, PyData.depth, h']
  | 0, .lst l, h => by simp [okN] at h
  | 0, .tup l, h => by simp [okN] at h
  | n + 1, .lst l, h => by
    have := toPys_ok (toPy_ok n) l (by simpa [okN] using h)
    simp only [toPy, PyData.canLay0, PyData.depth]
    exact ⟨this.1, by omega⟩
  | n + 1, .tup l, h => by
    have := toPys_ok (toPy_ok n) l (by simpa [okN] using h)
    simp only [toPy, PyData.canLay0, PyData.depth]
    exact ⟨this.1, by omega⟩
  | 0, .obj _ _, h => by simp [okN] at h
  | 0, .scr _, h => by simp [okN] at h
  | 0, .exc _, h => by simp [okN] at h
  | 0, .dct _ _, h => by simp [okN] at h
  | n + 1, .obj _ _, h => by simp [okN] at h
  | n + 1, .scr _, h => by simp [okN] at h
  | n + 1, .exc _, h => by simp [okN] at h
  | n + 1, .dct _ _, h => by simp [okN] at h
theorem okN_shaped {n : Nat} {d : Dt} (h : okN n d = true) (hn : n ≤ 64 := by decide) : SeqAt.shaped (toPy d) = true := by
  obtain ⟨h1, h2⟩ := toPy_ok n d h
  show ((toPy d).canLay0 && decide ((toPy d).depth ≤ 64)) = true
  rw [Bool.and_eq_true]
  exact ⟨h1, decide_eq_true (by omega)⟩
section
variable {K : PySem.W.Frag} {g : Cfg} {H : Hp}
mutual
theorem rep_dp : ∀ (n : Nat) (d : Dt) (v : V), okN n d = true → Rep K g H d v → Dp K H v (toPy d)
  | n, .non, v, _, h => by rw [Rep] at h; subst h; rw [toPy]; exact .non
  | n, .bl _, v, _, h => by rw [Rep] at h; subst h; rw [toPy]; exact .bl _
  | n, .int _, v, _, h => by rw [Rep] at h; subst h; rw [toPy]; exact .int _
  | n, .str _, v, _, h => by rw [Rep] at h; subst h; rw [toPy]; exact .str _
  | 0, .lst l, v, k, h => by simp [okN] at k
  | 0, .tup l, v, k, h => by simp [okN] at k
  | n + 1, .lst l, v, k, h => by
    rw [Rep] at h
    obtain ⟨a, vs, rfl, h2, h3⟩ := h
    rw [toPy]
    exact .lst (SqL.of h2) (reps_dp n l vs (by simpa [okN] using k) h3)
  | n + 1, .tup l, v, k, h => by
    rw [Rep] at h
    obtain ⟨a, vs, rfl, h2, h3⟩ := h
    rw [toPy]
    exact .tup h2 (reps_dp n l vs (by simpa [okN] using k) h3)
  | 0, .obj _ _, _, h, _ => by simp [okN] at h
  | 0, .scr _, _, h, _ => by simp [okN] at h
  | 0, .exc _, _, h, _ => by simp [okN] at h
  | 0, .dct _ _, _, h, _ => by simp [okN] at h
  | n + 1, .obj _ _, _, h, _ => by simp [okN] at h
  | n + 1, .scr _, _, h, _ => by simp [okN] at h
  | n + 1, .exc _, _, h, _ => by simp [okN] at h
  | n + 1, .dct _ _, _, h, _ => by simp [okN] at h
theorem reps_dp : ∀ (n : Nat) (l : List Dt) (vs : List V), l.all (okN n) = true → Reps K g H l vs → DpAll K H vs (toPys l)
  | n, [], vs, _, h => by rw [Reps] at h; subst h; rw [toPys]; exact .nil
  | n, d :: ds, vs, k, h => by
    rw [Reps] at h
    obtain ⟨v, r, rfl, h2, h3⟩ := h
    simp only [List.all_cons, Bool.and_eq_true] at k
    rw [toPys]
    exact .cons (rep_dp n d v k.1 h2) (reps_dp n ds r k.2 h3)
end
end

/-! ### operators -/
section
variable {X : Cx} {g : Cfg} {W : WX} {B : Base} {O : List SK} {pos : Pos} {kd : Kd}
def BinOk (K : PySem.W.Frag) (g : Cfg) (W : WX) (B : Base) (O : List SK) (kd : Kd) (r : R2) (h : Dt → Dt → R Dt) : Prop := ∀ F ρ σ H d1 d2 x y Q, Good K g B O F ρ σ H → RepC K g F H d1 x → RepC K g F H d2 y → Post K g W B O kd (h d1 d2) F ρ σ H Q → r x y H Q
def BOp (X : Cx) (g : Cfg) (W : WX) (B : Base) (O : List SK) (op : Operator) (kd : Kd) (h : Dt → Dt → R Dt) : Prop := ∃ r, OpR X (binaryOp op) r ∧ BinOk X.K g W B O kd r h
def COp (X : Cx) (g : Cfg) (W : WX) (B : Base) (O : List SK) (op : CmpOp) (h : Dt → Dt → R Dt) : Prop := ∃ r, OpR X (compareOp op) r ∧ BinOk X.K g W B O .fz r h
def d2 (h : Dt → Dt → R Dt) (f1 f2 : List Dt → R Dt) : List Dt → R Dt := fun ρ => rbind (f1 ρ) fun a => rbind (f2 ρ) fun b => h a b
theorem d2_op {r : R2} {h : Dt → Dt → R Dt} {f1 f2 : List Dt → R Dt} (hr : BinOk X.K g W B O kd r h) (σ : St) (H : Hp) (Q : VK) (P : tE X.K g W B O kd (d2 h f1 f2) σ H Q) : tOp r (tE X.K g W B O .ct f1) (tE X.K g W B O .ct f2) σ H Q := by
  obtain ⟨F, ρ, G, P⟩ := P
  refine tE_then G P fun d1 v1 F1 H1 e1 G1 x1 r1 P1 => ?_
  refine tE_then G1 P1 fun d2' v2 F2 H2 e2 G2 x2 r2 P2 => ?_
  exact hr F2 ρ σ H2 d1 d2' v1 v2 Q G2 (repC_mono x2.f x2.h r1) r2 (post_at (x1.trans x2) P2)
theorem v_bin {op : Operator} {h : Dt → Dt → R Dt} {a b : Expr} {f1 f2 : List Dt → R Dt} (o : BOp X g W B O op kd h) (ha : VE X g W B O .ct a f1) (hb : VE X g W B O .ct b f2) : VE X g W B O kd (.BinOp a op b pos) (d2 h f1 f2) := by
  obtain ⟨r, ho, hr⟩ := o
  exact pe_imp (pe_op ho ha hb) fun σ H Q P => d2_op hr σ H Q P
theorem v_cmp {op : CmpOp} {h : Dt → Dt → R Dt} {a b : Expr} {f1 f2 : List Dt → R Dt} (o : COp X g W B O op h) (ha : VE X g W B O .ct a f1) (hb : VE X g W B O .ct b f2)
    (hm : behindInMarks op b = false := by first | exact nomark _ (by decide) (by decide) | rfl) : VE X g W B O .fz (.Compare a [op] [b] pos) (d2 h f1 f2) := by
  obtain ⟨r, ho, hr⟩ := o
  exact pe_imp (pe_cmpR ho ha hb hm) fun σ H Q P => d2_op hr σ H Q P
def dBool : Dt → R Bool
  | .bl b => rok b
  | _ => none
def dT (f : List Dt → R Dt) : List Dt → R Bool := fun ρ => rbind (f ρ) dBool
theorem dT_of {K : PySem.W.Frag} {f : List Dt → R Dt} {kd : Kd} (σ : St) (H : Hp) (Q : Bool → Hp → Prop) (P : tT K g W B O (dT f) σ H Q) (hk : kd = .ct ∨ kd = .fz) : tE K g W B O kd f σ H fun x H' => ∃ k, x = .bl k ∧ Q k H' := by
  obtain ⟨F, ρ, G, P⟩ := P
  refine tE_then G P fun d v F1 H1 e1 G1 x1 r1 P1 => ?_
  have r2 : RepC K g F1 H1 d v := by
    rcases hk with rfl | rfl
    · exact r1
    · exact rep_repC G1.sub r1
  cases d <;> first | exact False.elim P1 | exact ⟨_, repC_bl r2, P1 F1 H1 G1 x1⟩
theorem vt_val {e : Expr} {f : List Dt → R Dt} (h : VE X g W B O .ct e f) (he : ∀ whole, isTrue e X.env whole = (do let v ← whole; standAt e.pos; holding [v] (truthy v)) := by intro _; rfl) : VT X g W B O e (dT f) :=
  pt_imp (pt_val h he) fun σ H Q P => dT_of σ H Q P (.inl rfl)
theorem vt_cmp {op : CmpOp} {h : Dt → Dt → R Dt} {a b : Expr} {f1 f2 : List Dt → R Dt} (o : COp X g W B O op h) (ha : VE X g W B O .ct a f1) (hb : VE X g W B O .ct b f2)
    (hm : behindInMarks op b = false := by first | exact nomark _ (by decide) (by decide) | rfl) : VT X g W B O (.Compare a [op] [b] pos) (dT (d2 h f1 f2)) := by
  obtain ⟨r, ho, hr⟩ := o
  refine pt_imp (pt_cmpR ho ha hb hm) fun σ H Q P => ?_
  exact d2_op (kd := .fz) hr σ H _ (dT_of σ H Q P (.inr rfl))
/-- a < b < c -/
def d3 (h h' : Dt → Dt → R Dt) (f1 f2 f3 : List Dt → R Dt) : List Dt → R Dt := fun ρ => rbind (f1 ρ) fun a => rbind (f2 ρ) fun b => rbind (h a b) fun t => rbind (dBool t) fun k => if k then rbind (f3 ρ) fun c => h' b c else rok (.bl false)
theorem d3_op {r r' : R2} {h h' : Dt → Dt → R Dt} {f1 f2 f3 : List Dt → R Dt} (hr : BinOk X.K g W B O .fz r h) (hr' : BinOk X.K g W B O .fz r' h') (σ : St) (H : Hp) (Q : VK) (P : tE X.K g W B O .fz (d3 h h' f1 f2 f3) σ H Q) : tChain r r' (tE X.K g W B O .ct f1) (tE X.K g W B O .ct f2) (tE X.K g W B O .ct f3) σ H Q := by
  obtain ⟨F, ρ, G, P⟩ := P
  refine tE_then G P fun d1 v1 F1 H1 e1 G1 x1 r1 P1 => ?_
  refine tE_then G1 P1 fun d2' v2 F2 H2 e2 G2 x2 r2 P2 => ?_
  refine hr F2 ρ σ H2 d1 d2' v1 v2 _ G2 (repC_mono x2.f x2.h r1) r2 (PostX.mono (PostX.bind P2) (fun _ z => erM (x1.trans x2).f z) fun d _ P3 v F3 H3 G3 x3 r3 => ?_)
  cases d <;> first | exact False.elim P3 | skip
  rename_i k _
  refine ⟨k, by simpa [ResOk, Rep] using r3, ?_⟩
  have P4 : PostX (ErE X.K g W B O F ρ σ) (if k = true then rbind (f3 ρ) fun c => h' d2' c else rok (.bl false)) _ := P3
  cases k with
  | false =>
    rw [if_neg (by decide)] at P4 ⊢
    exact P4 _ F3 H3 G3 (x1.trans (x2.trans x3)) ok_bl
  | true =>
    rw [if_pos rfl] at P4 ⊢
    refine tE_then (he := fun _ z => erM (x1.trans (x2.trans x3)).f z) G3 P4 fun d5 v5 F5 H5 e5 G5 x5 r5 P5 => ?_
    exact hr' F5 ρ σ H5 d2' d5 v2 v5 Q G5 (repC_mono (x3.trans x5).f (x3.trans x5).h r2) r5 (post_at (x1.trans (x2.trans (x3.trans x5))) P5)
theorem v_chain {op op' : CmpOp} {h h' : Dt → Dt → R Dt} {a b c : Expr} {f1 f2 f3 : List Dt → R Dt} (o : COp X g W B O op h) (o' : COp X g W B O op' h') (ha : VE X g W B O .ct a f1) (hb : VE X g W B O .ct b f2) (hc : VE X g W B O .ct c f3)
    (hm : lastMarks [op, op'] [b, c] = false := by with_unfolding_all rfl) : VE X g W B O .fz (.Compare a [op, op'] [b, c] pos) (d3 h h' f1 f2 f3) := by
  obtain ⟨r, ho, hr⟩ := o
  obtain ⟨r', ho', hr'⟩ := o'
  exact pe_imp (pe_chain ho ho' ha hb hc hm) fun σ H Q P => d3_op hr hr' σ H Q P
theorem vt_chain {op op' : CmpOp} {h h' : Dt → Dt → R Dt} {a b c : Expr} {f1 f2 f3 : List Dt → R Dt} (o : COp X g W B O op h) (o' : COp X g W B O op' h') (ha : VE X g W B O .ct a f1) (hb : VE X g W B O .ct b f2) (hc : VE X g W B O .ct c f3)
    (hm : lastMarks [op, op'] [b, c] = false := by with_unfolding_all rfl) : VT X g W B O (.Compare a [op, op'] [b, c] pos) (dT (d3 h h' f1 f2 f3)) := by
  obtain ⟨r, ho, hr⟩ := o
  obtain ⟨r', ho', hr'⟩ := o'
  refine pt_imp (pt_chain ho ho' ha hb hc hm) fun σ H Q P => ?_
  exact d3_op hr hr' σ H _ (dT_of σ H Q P (.inr rfl))

/-! the operators -/
def dSub : Dt → Dt → R Dt
  | .int i, .int j => rok (.int (i - j))
  | _, _ => none
def dFdiv : Dt → Dt → R Dt
  | .int i, .int j => if 0 < j ∧ j < 1073741824 then rok (.int (i / j)) else none
  | _, _ => none
def dMod : Dt → Dt → R Dt
  | .int i, .int j => if 0 < j then rok (.int (i % j)) else none
  | _, _ => none
theorem o_sub : BOp X g W B O .Sub .fz dSub := ⟨_, op_sub, fun F ρ σ H d1 d2 x y Q G h1 h2 P => by
  cases d1 <;> cases d2 <;> first | exact False.elim P | exact ⟨_, _, repC_int h1, repC_int h2, post_ok G P ok_int⟩⟩
theorem o_fdiv : BOp X g W B O .FloorDiv .fz dFdiv := ⟨_, op_fdiv, fun F ρ σ H d1 d2 x y Q G h1 h2 P => by
  cases d1 <;> cases d2 <;> first | exact False.elim P | skip
  rename_i i j
  by_cases c : 0 < j ∧ j < 1073741824
  · have P' : Post X.K g W B O .fz (rok (.int (i / j))) F ρ σ H Q := by
      have q : dFdiv (.int i) (.int j) = rok (.int (i / j)) := if_pos c
      rw [q] at P; exact P
    exact ⟨_, _, repC_int h1, repC_int h2, c, post_ok G P' ok_int⟩
  · have q : dFdiv (.int i) (.int j) = none := if_neg c
    rw [q] at P; exact False.elim P⟩
theorem o_mod : BOp X g W B O .Mod .fz dMod := ⟨_, op_mod, fun F ρ σ H d1 d2 x y Q G h1 h2 P => by
  cases d1 <;> cases d2 <;> first | exact False.elim P | skip
  rename_i i j
  by_cases c : 0 < j
  · have P' : Post X.K g W B O .fz (rok (.int (i % j))) F ρ σ H Q := by
      have q : dMod (.int i) (.int j) = rok (.int (i % j)) := if_pos c
      rw [q] at P; exact P
    exact ⟨_, _, repC_int h1, repC_int h2, c, post_ok G P' ok_int⟩
  · have q : dMod (.int i) (.int j) = none := if_neg c
    rw [q] at P; exact False.elim P⟩
/-- ints, texts -/
def dAdd : Dt → Dt → R Dt
  | .int i, .int j => rok (.int (i + j))
  | .str a, .str b => if a.length + b.length ≤ 16777216 then rok (.str (a ++ b)) else none
  | _, _ => none
theorem o_add : BOp X g W B O .Add .fz dAdd := ⟨_, op_add.or op_add_str, fun F ρ σ H d1 d2 x y Q G h1 h2 P => by
  cases d1 <;> cases d2 <;> first | exact False.elim P | exact .inl ⟨_, _, repC_int h1, repC_int h2, post_ok G P ok_int⟩ | skip
  rename_i a b
  by_cases c : a.length + b.length ≤ 16777216
  · have P' : Post X.K g W B O .fz (rok (.str (a ++ b))) F ρ σ H Q := by
      have q : dAdd (.str a) (.str b) = rok (.str (a ++ b)) := if_pos c
      rw [q] at P; exact P
    exact .inr ⟨_, _, repC_str h1, repC_str h2, by rw [sizeLine_eq]; exact c, post_ok G P' ok_str⟩
  · have q : dAdd (.str a) (.str b) = none := if_neg c
    rw [q] at P; exact False.elim P⟩
def dMul : Dt → Dt → R Dt
  | .int i, .int j => if (-(2 ^ 64) < i ∧ i < 2 ^ 64) ∨ (-(2 ^ 64) < j ∧ j < 2 ^ 64) then rok (.int (i * j)) else none
  | _, _ => none
theorem o_mul : BOp X g W B O .Mult .fz dMul := ⟨_, op_mul, fun F ρ σ H d1 d2 x y Q G h1 h2 P => by
  cases d1 <;> cases d2 <;> first | exact False.elim P | skip
  rename_i i j
  by_cases c : (-(2 ^ 64) < i ∧ i < 2 ^ 64) ∨ (-(2 ^ 64) < j ∧ j < 2 ^ 64)
  · have P' : Post X.K g W B O .fz (rok (.int (i * j))) F ρ σ H Q := by
      have q : dMul (.int i) (.int j) = rok (.int (i * j)) := if_pos c
      rw [q] at P; exact P
    exact ⟨_, _, repC_int h1, repC_int h2, c, post_ok G P' ok_int⟩
  · have q : dMul (.int i) (.int j) = none := if_neg c
    rw [q] at P; exact False.elim P⟩
theorem own_new {K : PySem.W.Frag} {F : Hp} {ρ : List Dt} {σ : St} {H : Hp} {p : Addr} {vs : List V} {l : List Dt} (G : Good K g B O F ρ σ H) (h : H p = none) (r : Reps K g F l vs) : ResOk K g B O H F σ (upd H p (.lst vs)) .own (.lst l) (.ref p) := by
  refine ⟨⟨p, vs, l, rfl, rfl, upd_same, G.fnone h, G.b0.free h, r⟩, fun i hi e => ?_, fun q hq => by cases hq; exact h⟩
  obtain ⟨d, o, h1, h2, v, h3, h4⟩ := slot_there G hi
  obtain ⟨p', vs', l', e1, e2, e3, e4, e5, e6⟩ := h4
  rw [h2] at e
  cases e
  cases h3
  cases e1
  rw [h] at e3
  cases e3
theorem post_new {K : PySem.W.Frag} {F : Hp} {ρ : List Dt} {σ : St} {H : Hp} {p : Addr} {vs : List V} {l : List Dt} {Q : VK} (G : Good K g B O F ρ σ H) (P : Post K g W B O .own (rok (.lst l)) F ρ σ H Q) (h : H p = none) (r : Reps K g F l vs) : Q (.ref p) (upd H p (.lst vs)) :=
  P _ F _ (G.alloc h) ⟨fun _ _ z => z, same_upd h, fun _ _ z => .inl z⟩ (own_new G h r)
/-- lists put together -/
def dCat : Dt → Dt → R Dt
  | .lst a, .lst b => if a.length + b.length ≤ 16777216 then rok (.lst (a ++ b)) else none
  | _, _ => none
theorem o_cat : BOp X g W B O .Add .own dCat := ⟨_, op_cat, fun F ρ σ H d1 d2 x y Q G h1 h2 P => by
  cases d1 <;> cases d2 <;> first | exact False.elim P | skip
  rename_i a b
  by_cases c : a.length + b.length ≤ 16777216
  · have P' : Post X.K g W B O .own (rok (.lst (a ++ b))) F ρ σ H Q := by
      have q : dCat (.lst a) (.lst b) = rok (.lst (a ++ b)) := if_pos c
      rw [q] at P; exact P
    obtain ⟨p1, vs1, rfl, e1, r1⟩ := h1
    obtain ⟨p2, vs2, rfl, e2, r2⟩ := h2
    exact ⟨p1, p2, vs1, vs2, rfl, rfl, e1, e2, by rw [← reps_len r1, ← reps_len r2, sizeLine_eq]; exact c, fun p hp => post_new G P' hp (reps_append r1 r2)⟩
  · have q : dCat (.lst a) (.lst b) = none := if_neg c
    rw [q] at P; exact False.elim P⟩
theorem reps_rep {K : PySem.W.Frag} {F : Hp} {l : List Dt} {vs : List V} (h : Reps K g F l vs) : ∀ k : Nat, Reps K g F (List.replicate k l).flatten (List.replicate k vs).flatten
  | 0 => by simpa using reps_nil
  | k + 1 => by
    rw [List.replicate_succ, List.replicate_succ, List.flatten_cons, List.flatten_cons]
    exact reps_append h (reps_rep h k)
def dRep : Dt → Dt → R Dt
  | .lst a, .int k => if k < 16777216 ∧ a.length * k.toNat ≤ 16777216 ∧ -16777216 < k then rok (.lst (List.replicate k.toNat a).flatten) else none
  | _, _ => none
theorem o_rep : BOp X g W B O .Mult .own dRep := ⟨_, op_rep, fun F ρ σ H d1 d2 x y Q G h1 h2 P => by
  cases d1 <;> cases d2 <;> first | exact False.elim P | skip
  rename_i a k
  by_cases c : k < 16777216 ∧ a.length * k.toNat ≤ 16777216 ∧ -16777216 < k
  · have P' : Post X.K g W B O .own (rok (.lst (List.replicate k.toNat a).flatten)) F ρ σ H Q := by
      have q : dRep (.lst a) (.int k) = rok (.lst (List.replicate k.toNat a).flatten) := if_pos c
      rw [q] at P; exact P
    obtain ⟨p1, vs1, rfl, e1, r1⟩ := h1
    exact ⟨p1, k, vs1, rfl, repC_int h2, e1, by omega, by omega, by rw [← reps_len r1, sizeLine_eq]; exact c.2.1, fun p hp => post_new G P' hp (reps_rep r1 _)⟩
  · have q : dRep (.lst a) (.int k) = none := if_neg c
    rw [q] at P; exact False.elim P⟩
/-! comparisons -/
def dLt : Dt → Dt → R Dt
  | .int i, .int j => rok (.bl (decide (i < j)))
  | .str a, .str b => rok (.bl (decide (a.cps.toList < b.cps.toList)))
  | _, _ => none
def dLe : Dt → Dt → R Dt
  | .int i, .int j => rok (.bl (decide (i ≤ j)))
  | _, _ => none
def dGt : Dt → Dt → R Dt
  | .int i, .int j => rok (.bl (decide (j < i)))
  | .str a, .str b => rok (.bl (decide (b.cps.toList < a.cps.toList)))
  | _, _ => none
def dGe : Dt → Dt → R Dt
  | .int i, .int j => rok (.bl (decide (j ≤ i)))
  | _, _ => none
theorem c_lt : COp X g W B O .Lt dLt := ⟨_, op_lt.or op_lt_str, fun F ρ σ H d1 d2 x y Q G h1 h2 P => by
  cases d1 <;> cases d2 <;> first | exact False.elim P | exact .inl ⟨_, _, repC_int h1, repC_int h2, post_ok G P ok_bl⟩ | exact .inr ⟨_, _, repC_str h1, repC_str h2, post_ok G P ok_bl⟩⟩
theorem c_le : COp X g W B O .LtE dLe := ⟨_, op_le, fun F ρ σ H d1 d2 x y Q G h1 h2 P => by
  cases d1 <;> cases d2 <;> first | exact False.elim P | exact ⟨_, _, repC_int h1, repC_int h2, post_ok G P ok_bl⟩⟩
theorem c_ge : COp X g W B O .GtE dGe := ⟨_, op_ge, fun F ρ σ H d1 d2 x y Q G h1 h2 P => by
  cases d1 <;> cases d2 <;> first | exact False.elim P | exact ⟨_, _, repC_int h1, repC_int h2, post_ok G P ok_bl⟩⟩
theorem c_gt : COp X g W B O .Gt dGt := ⟨_, op_gt.or op_gt_str, fun F ρ σ H d1 d2 x y Q G h1 h2 P => by
  cases d1 <;> cases d2 <;> first | exact False.elim P | exact .inl ⟨_, _, repC_int h1, repC_int h2, post_ok G P ok_bl⟩ | exact .inr ⟨_, _, repC_str h1, repC_str h2, post_ok G P ok_bl⟩⟩
/-- == of plain data -/
def dEq (a b : Dt) : R Dt := if (okN 8 a && okN 8 b) = true then rok (.bl (PyData.eqv (toPy a) (toPy b))) else none
def dNe (a b : Dt) : R Dt := if (okN 8 a && okN 8 b) = true then rok (.bl (!PyData.eqv (toPy a) (toPy b))) else none
theorem c_eq {k : Nat} (hr : Room k X.A) : COp X g W B O .Eq dEq := ⟨_, op_eqD hr.units, fun F ρ σ H d1 d2 x y Q G h1 h2 P => by
  by_cases c : (okN 8 d1 && okN 8 d2) = true
  · have P' : Post X.K g W B O .fz (rok (.bl (PyData.eqv (toPy d1) (toPy d2)))) F ρ σ H Q := by
      have q : dEq d1 d2 = rok (.bl (PyData.eqv (toPy d1) (toPy d2))) := if_pos c
      rw [q] at P; exact P
    obtain ⟨c1, c2⟩ := Bool.and_eq_true_iff.mp c
    exact ⟨_, _, rep_dp 8 _ _ c1 (repC_rep G.sub h1), rep_dp 8 _ _ c2 (repC_rep G.sub h2), okN_shaped c1, okN_shaped c2, post_ok G P' ok_bl⟩
  · have q : dEq d1 d2 = none := if_neg c
    rw [q] at P; exact False.elim P⟩
theorem c_ne {k : Nat} (hr : Room k X.A) : COp X g W B O .NotEq dNe := ⟨_, op_neD hr.units, fun F ρ σ H d1 d2 x y Q G h1 h2 P => by
  by_cases c : (okN 8 d1 && okN 8 d2) = true
  · have P' : Post X.K g W B O .fz (rok (.bl (!PyData.eqv (toPy d1) (toPy d2)))) F ρ σ H Q := by
      have q : dNe d1 d2 = rok (.bl (!PyData.eqv (toPy d1) (toPy d2))) := if_pos c
      rw [q] at P; exact P
    obtain ⟨c1, c2⟩ := Bool.and_eq_true_iff.mp c
    exact ⟨_, _, rep_dp 8 _ _ c1 (repC_rep G.sub h1), rep_dp 8 _ _ c2 (repC_rep G.sub h2), okN_shaped c1, okN_shaped c2, post_ok G P' ok_bl⟩
  · have q : dNe d1 d2 = none := if_neg c
    rw [q] at P; exact False.elim P⟩
/-- is None -/
def isNon : Dt → Bool
  | .non => true
  | _ => false
theorem repC_isNon {K : PySem.W.Frag} {F H : Hp} {d : Dt} {v : V} (h : RepC K g F H d v) : decide (v = .non) = isNon d := by
  cases d with
  | non => rw [repC_non h]; rfl
  | bl b => rw [repC_bl h]; rfl
  | int i => rw [repC_int h]; rfl
  | str i => rw [repC_str h]; rfl
  | lst l => obtain ⟨a, vs, e, _⟩ := h; rw [e]; rfl
  | tup l => obtain ⟨a, vs, e, _⟩ := (by simpa [RepC, Rep] using h : ∃ a vs, v = V.ref a ∧ SqT K F a vs ∧ Reps K g F l vs); rw [e]; rfl
  | obj c l =>
    have h : Rep K g F (.obj c l) v := h
    rw [Rep] at h
    obtain ⟨a, dx, vs, e, _⟩ := h; rw [e]; rfl
  | scr l =>
    have h : Rep K g F (.scr l) v := h
    rw [Rep] at h
    obtain ⟨a, e, _⟩ := h; rw [e]; rfl
  | exc l =>
    have h : Rep K g F (.exc l) v := h
    rw [Rep] at h
    obtain ⟨a, e, _⟩ := h; rw [e]; rfl
  | dct ks l =>
    have h : Rep K g F (.dct ks l) v := h
    rw [Rep] at h
    obtain ⟨a, vs, e, _⟩ := h
    rw [e]; rfl
def dIsN (a b : Dt) : R Dt := if isNon b = true then rok (.bl (isNon a)) else none
def dNotN (a b : Dt) : R Dt := if isNon b = true then rok (.bl (!isNon a)) else none
theorem c_is : COp X g W B O .Is dIsN := ⟨_, op_isN, fun F ρ σ H d1 d2 x y Q G h1 h2 P => by
  cases d2 <;> first | exact False.elim P | exact ⟨repC_non h2, by rw [repC_isNon h1]; exact post_ok G P ok_bl⟩⟩
theorem c_isnot : COp X g W B O .IsNot dNotN := ⟨_, op_notN, fun F ρ σ H d1 d2 x y Q G h1 h2 P => by
  cases d2 <;> first | exact False.elim P | exact ⟨repC_non h2, by rw [repC_isNon h1]; exact post_ok G P ok_bl⟩⟩
end
end VL

set_option Elab.async false
set_option linter.all false
set_option maxRecDepth 100000
set_option maxHeartbeats 4000000
namespace VL
open PySem PySem.Spec PyProof.Rows L2
section
variable {X : Cx} {g : Cfg} {W : WX} {B : Base} {O : List SK} {pos : Pos} {kd : Kd} {a b c e : Expr} {es : List Expr} {f f1 f2 f3 : List Dt → R Dt} {fs : List Dt → R (List Dt)} {p p1 p2 : List Dt → R Bool}

/-! ### x in xs -/
theorem flat_toV {K : PySem.W.Frag} {F : Hp} {d : Dt} {v : V} (f : isFlat d = true) (h : Rep K g F d v) : flatV v = true := by
  cases d <;> first | (simp only [Rep] at h; subst h; rfl) | cases f
theorem flat_eqV {K : PySem.W.Frag} {F F' : Hp} {d d' : Dt} {v v' : V} (f : isFlat d = true) (h : Rep K g F d v) (f' : isFlat d' = true) (h' : Rep K g F' d' v') : eqV v v' = PyData.eqv (toPy d) (toPy d') := by
  cases d <;> first | (simp only [Rep] at h; subst h) | cases f
  all_goals (cases d' <;> first | (simp only [Rep] at h'; subst h'; simp [eqV, toPy, PyData.eqv]) | cases f')
theorem any_eqV {K : PySem.W.Frag} {F F' : Hp} {d : Dt} {v : V} (f : isFlat d = true) (h : Rep K g F d v) : ∀ {l : List Dt} {vs : List V}, l.all isFlat = true → Reps K g F' l vs → vs.all flatV = true ∧ inV v vs = l.any fun z => PyData.eqv (toPy z) (toPy d)
  | [], vs, _, r => by rw [Reps] at r; subst r; exact ⟨rfl, rfl⟩
  | z :: l, vs, k, r => by
    rw [Reps] at r
    obtain ⟨w, vr, rfl, h2, h3⟩ := r
    simp only [List.all_cons, Bool.and_eq_true] at k
    obtain ⟨i1, i2⟩ := any_eqV f h k.2 h3
    refine ⟨by rw [List.all_cons, flat_toV k.1 h2, i1]; rfl, ?_⟩
    unfold inV at i2 ⊢
    rw [List.any_cons, List.any_cons, i2, flat_eqV k.1 h2 f h]
def mem (l : List Dt) (a : Dt) : Bool := l.any fun z => PyData.eqv (toPy z) (toPy a)
def inStr (a z : Str) : R Bool := match a.cps.toList with
  | [c] => rok (decide (c ∈ z.cps.toList))
  | _ => none
def isIn (a b : Dt) : R Bool := match b with
  | .lst l => if (okN 8 a && okN 8 (.lst l)) = true then rok (mem l a) else none
  | .tup l => if (isFlat a && l.all isFlat) = true then rok (mem l a) else none
  | .str z => match a with
    | .str s => inStr s z
    | _ => none
  | _ => none
def dIn (a b : Dt) : R Dt := rbind (isIn a b) fun k => rok (.bl k)
def dNotIn (a b : Dt) : R Dt := rbind (isIn a b) fun k => rok (.bl (!k))
theorem isIn_ok {k0 : Nat} (hr : Room k0 X.A) {F : Hp} {ρ : List Dt} {σ : St} {H : Hp} {d1 d2 : Dt} {x y : V} (G : Good X.K g B O F ρ σ H) (h1 : RepC X.K g F H d1 x) (h2 : RepC X.K g F H d2 y) {k : Bool} (e : isIn d1 d2 = rok k) :
    (∃ c, x = .str ⟨#[c]⟩ ∧ ∃ z, y = .str z ∧ k = decide (c ∈ z.cps.toList)) ∨ (∃ d ds, Dp X.K H x d ∧ Dp X.K H y (.list ds) ∧ SeqAt.shaped d = true ∧ SeqAt.shaped (.list ds) = true ∧ k = ds.any fun z => PyData.eqv z d) ∨
      ∃ p xs, y = .ref p ∧ (SqL X.K H p xs ∨ SqT X.K H p xs) ∧ flatV x = true ∧ xs.all flatV = true ∧ k = inV x xs := by
  cases d2 with
  | lst l =>
    refine .inr (.inl ?_)
    by_cases c : (okN 8 d1 && okN 8 (.lst l)) = true
    · have q : isIn d1 (.lst l) = rok (mem l d1) := if_pos c
      rw [q] at e
      have e' : mem l d1 = k := by injection e with e; injection e
      obtain ⟨c1, c2⟩ := Bool.and_eq_true_iff.mp c
      have h3 := rep_dp 8 _ _ c2 (repC_rep G.sub h2)
      have h4 := okN_shaped c2
      rw [toPy] at h3 h4
      refine ⟨_, _, rep_dp 8 _ _ c1 (repC_rep G.sub h1), h3, okN_shaped c1, h4, ?_⟩
      rw [← e', toPys_map, List.any_map]
      rfl
    · have q : isIn d1 (.lst l) = none := if_neg c
      rw [q] at e; cases e
  | tup l =>
    refine .inr (.inr ?_)
    by_cases c : (isFlat d1 && l.all isFlat) = true
    · have q : isIn d1 (.tup l) = rok (mem l d1) := if_pos c
      rw [q] at e
      have e' : mem l d1 = k := by injection e with e; injection e
      obtain ⟨c1, c2⟩ := Bool.and_eq_true_iff.mp c
      have h3 : Rep X.K g F (.tup l) y := h2
      rw [Rep] at h3
      obtain ⟨p, vs, rfl, h4, h5⟩ := h3
      have h6 : Rep X.K g F d1 x := repC_flat c1 h1
      obtain ⟨i1, i2⟩ := any_eqV c1 h6 c2 h5
      exact ⟨p, vs, rfl, .inr (sqT_mono G.sub h4), flat_toV c1 h6, i1, by rw [i2, ← e']; rfl⟩
    · have q : isIn d1 (.tup l) = none := if_neg c
      rw [q] at e; cases e
  | str z =>
    refine .inl ?_
    cases d1 with
    | str s =>
      have q : isIn (.str s) (.str z) = inStr s z := rfl
      rw [q] at e
      unfold inStr at e
      split at e
      · rename_i c hc
        have e' : decide (c ∈ z.cps.toList) = k := by injection e with e; injection e
        refine ⟨c, ?_, z, repC_str h2, e'.symm⟩
        rw [repC_str h1]
        have : s = ⟨#[c]⟩ := by
          obtain ⟨arr⟩ := s
          have : arr = #[c] := Array.toList_inj.mp hc
          rw [this]
        rw [this]
      · cases e
    | _ => cases e
  | _ => cases e
theorem c_in {k0 : Nat} (hr : Room k0 X.A) (h65 : X.A.units + 65 < cLine) : COp X g W B O .In dIn := ⟨_, op_in_sign.or ((op_inD h65).or op_in_seq), fun F ρ σ H d1 d2 x y Q G h1 h2 P => by
  have P' := PostX.bind P
  rcases q : isIn d1 d2 with _ | (c | k)
  · rw [q] at P'; exact P'.elim
  · exfalso
    cases d2 with
    | lst l => unfold isIn at q; simp only at q; split at q <;> cases q
    | tup l => unfold isIn at q; simp only at q; split at q <;> cases q
    | str z =>
      cases d1 with
      | str s =>
        have q' : inStr s z = some (.error c) := q
        unfold inStr at q'
        split at q' <;> cases q'
      | _ => cases q
    | _ => cases q
  · rw [q] at P'
    have P2 : Post X.K g W B O .fz (rok (.bl k)) F ρ σ H Q := P'
    have fin := post_ok G P2 ok_bl
    rcases isIn_ok hr G h1 h2 q with ⟨c, e1, z, e2, e3⟩ | ⟨d, ds, a1, a2, a3, a4, a5⟩ | ⟨p, xs, a1, a2, a3, a4, a5⟩
    · exact .inl ⟨c, z, e1, e2, by rw [← e3]; exact fin⟩
    · exact .inr (.inl ⟨d, ds, a1, a2, a3, a4, by rw [← a5]; exact fin⟩)
    · exact .inr (.inr ⟨p, xs, a1, a2, a3, a4, by simp only [Bool.false_eq_true, if_false]; rw [← a5]; exact fin⟩)⟩
theorem c_notin {k0 : Nat} (hr : Room k0 X.A) (h65 : X.A.units + 65 < cLine) : COp X g W B O .NotIn dNotIn := ⟨_, op_notIn_sign.or ((op_notInD h65).or op_notIn_seq), fun F ρ σ H d1 d2 x y Q G h1 h2 P => by
  have P' := PostX.bind P
  rcases q : isIn d1 d2 with _ | (c | k)
  · rw [q] at P'; exact P'.elim
  · exfalso
    cases d2 with
    | lst l => unfold isIn at q; simp only at q; split at q <;> cases q
    | tup l => unfold isIn at q; simp only at q; split at q <;> cases q
    | str z =>
      cases d1 with
      | str s =>
        have q' : inStr s z = some (.error c) := q
        unfold inStr at q'
        split at q' <;> cases q'
      | _ => cases q
    | _ => cases q
  · rw [q] at P'
    have P2 : Post X.K g W B O .fz (rok (.bl (!k))) F ρ σ H Q := P'
    have fin := post_ok G P2 ok_bl
    rcases isIn_ok hr G h1 h2 q with ⟨c, e1, z, e2, e3⟩ | ⟨d, ds, a1, a2, a3, a4, a5⟩ | ⟨p, xs, a1, a2, a3, a4, a5⟩
    · exact .inl ⟨c, z, e1, e2, by rw [← e3]; exact fin⟩
    · exact .inr (.inl ⟨d, ds, a1, a2, a3, a4, by rw [← a5]; exact fin⟩)
    · exact .inr (.inr ⟨p, xs, a1, a2, a3, a4, by simp only [if_true]; rw [← a5]; exact fin⟩)⟩

theorem ct_int {K : PySem.W.Frag} {H0 F : Hp} {σ : St} {H : Hp} {i : Int} {v : V} (r : ResOk K g B O H0 F σ H .ct (.int i) v) : v = .int i := repC_int (K := K) (g := g) (F := F) (H := H) r
theorem ct_bl {K : PySem.W.Frag} {H0 F : Hp} {σ : St} {H : Hp} {i : Bool} {v : V} (r : ResOk K g B O H0 F σ H .ct (.bl i) v) : v = .bl i := repC_bl (K := K) (g := g) (F := F) (H := H) r
theorem ct_str {K : PySem.W.Frag} {H0 F : Hp} {σ : St} {H : Hp} {i : Str} {v : V} (r : ResOk K g B O H0 F σ H .ct (.str i) v) : v = .str i := repC_str (K := K) (g := g) (F := F) (H := H) r
/-! ### one-place operators, tests -/
def d1 (h : Dt → R Dt) (f : List Dt → R Dt) : List Dt → R Dt := fun ρ => rbind (f ρ) h
def dNeg : Dt → R Dt
  | .int i => rok (.int (-i))
  | _ => none
theorem v_neg (ha : VE X g W B O .ct a f) : VE X g W B O .fz (.UnaryOp .USub a pos) (d1 dNeg f) := pe_imp (pe_un un_neg ha) fun σ H Q ⟨F, ρ, G, P⟩ =>
  tE_then G P fun d v F1 H1 e1 G1 x1 r1 P1 => by
    cases d <;> first | exact False.elim P1 | exact ⟨_, ct_int r1, P1 _ F1 H1 G1 x1 ok_int⟩
def dNot : Dt → R Dt
  | .bl i => rok (.bl (!i))
  | _ => none
theorem v_not (ha : VE X g W B O .ct a f) : VE X g W B O .fz (.UnaryOp .Not a pos) (d1 dNot f) := pe_imp (pe_not ha) fun σ H Q ⟨F, ρ, G, P⟩ =>
  tE_then G P fun d v F1 H1 e1 G1 x1 r1 P1 => by
    cases d <;> first | exact False.elim P1 | exact ⟨_, ct_bl r1, P1 _ F1 H1 G1 x1 ok_bl⟩
def tru : Dt → R Bool
  | .non => rok false
  | .bl b => rok b
  | .int i => rok (i != 0)
  | .str s => if s.length ≤ 16777216 then rok (s.length != 0) else none
  | .lst l => rok (!l.isEmpty)
  | .tup l => rok (!l.isEmpty)
  | .scr l => rok (!l.isEmpty)
  | _ => none
theorem reps_isEmpty {K : PySem.W.Frag} {H : Hp} {l : List Dt} {vs : List V} (h : Reps K g H l vs) : vs.isEmpty = l.isEmpty := by
  have := reps_len h
  cases l <;> cases vs <;> first | rfl | simp at this
theorem tru_ok' {K : PySem.W.Frag} {F H : Hp} {d : Dt} {v : V} {k : Bool} (s : Same F H) (h : RepC K g F H d v) (e : tru d = rok k) : TruV K v H k := by
  cases d with
  | non => rw [repC_non h]; injection e with e; injection e with e; exact e.symm
  | bl b => rw [repC_bl h]; injection e with e; injection e with e; exact e.symm
  | int i => rw [repC_int h]; injection e with e; injection e with e; exact e.symm
  | str z =>
    rw [repC_str h]
    by_cases c : z.length ≤ 16777216
    · have q : tru (.str z) = rok (z.length != 0) := if_pos c
      rw [q] at e
      injection e with e; injection e with e
      refine ⟨by rw [sizeLine_eq]; exact c, ?_⟩
      rw [← e, Bool.eq_iff_iff]
      simp
    · have q : tru (.str z) = none := if_neg c
      rw [q] at e; cases e
  | lst l =>
    obtain ⟨p, vs, rfl, h2, h3⟩ := h
    injection e with e; injection e with e
    exact .inl ⟨vs, SqL.of h2, by rw [reps_isEmpty h3]; exact e.symm⟩
  | tup l =>
    have h : Rep K g F (.tup l) v := h
    rw [Rep] at h
    obtain ⟨p, vs, rfl, h2, h3⟩ := h
    injection e with e; injection e with e
    exact .inr (.inl ⟨vs, sqT_mono s h2, by rw [reps_isEmpty h3]; exact e.symm⟩)
  | scr l =>
    have h : Rep K g F (.scr l) v := h
    rw [Rep] at h
    obtain ⟨p, rfl, h2⟩ := h
    injection e with e; injection e with e
    exact .inl ⟨_, sqL_mono s h2, by rw [← e]; cases l <;> rfl⟩
  | obj _ _ => cases e
  | exc _ => cases e
  | dct _ _ => cases e
theorem tru_noerr {d : Dt} {c : Nat} (e : tru d = some (.error c)) : False := by
  cases d with
  | str z => simp only [tru] at e; split at e <;> cases e
  | _ => simp [tru, rok] at e
def dTr (f : List Dt → R Dt) : List Dt → R Bool := fun ρ => rbind (f ρ) tru
theorem vt_truth (ha : VE X g W B O .ct a f) (he : ∀ whole, isTrue a X.env whole = (do let v ← whole; standAt a.pos; holding [v] (truthy v)) := by intro _; rfl) : VT X g W B O a (dTr f) := pt_imp (pt_truth ha he) fun σ H Q ⟨F, ρ, G, P⟩ =>
  tE_then G P fun d v F1 H1 e1 G1 x1 r1 P1 => by
    rcases q : tru d with _ | (c | k)
    · rw [q] at P1; exact P1.elim
    · exact (tru_noerr q).elim
    · rw [q] at P1
      exact ⟨k, tru_ok' G1.sub r1 q, P1 F1 H1 G1 x1⟩
theorem tT_then {β : Type} {K : PySem.W.Frag} {k : Bool → R β} {ok : β → Prop} {F : Hp} {ρ : List Dt} {σ : St} {H : Hp} {Q : Bool → Hp → Prop} (G : Good K g B O F ρ σ H) {er : Nat → Prop} (h : PostX er (rbind (p ρ) k) ok)
    (c : ∀ b F' H', p ρ = some (.ok b) → Good K g B O F' ρ σ H' → Ext F H F' H' → PostX er (k b) ok → Q b H') (he : ∀ c, er c → ErE K g W B O F ρ σ c := by first | exact fun _ z => z | exact fun _ z => erW z | exact fun _ z => erM (Ext.f (by assumption)) z | exact fun _ z => erM (Ext.f (Ext.trans (by assumption) (by assumption))) z) : tT K g W B O p σ H Q :=
  ⟨F, ρ, G, PostX.mono (PostX.bind h) he fun d e q F' H' G' x => c d F' H' e G' x q⟩
def pAnd (p1 p2 : List Dt → R Bool) : List Dt → R Bool := fun ρ => rbind (p1 ρ) fun k => if k then p2 ρ else rok false
def pOr (p1 p2 : List Dt → R Bool) : List Dt → R Bool := fun ρ => rbind (p1 ρ) fun k => if k then rok true else p2 ρ
def pNot (p1 : List Dt → R Bool) : List Dt → R Bool := fun ρ => rbind (p1 ρ) fun k => rok (!k)
theorem postB_at {K : PySem.W.Frag} {r : R Bool} {F F' : Hp} {ρ : List Dt} {σ : St} {H H' : Hp} {Q : Bool → Hp → Prop} (x : Ext F H F' H')
    (h : PostX (ErE K g W B O F ρ σ) r fun b => ∀ F2 H2, Good K g B O F2 ρ σ H2 → Ext F H F2 H2 → Q b H2) : PostX (ErE K g W B O F' ρ σ) r fun b => ∀ F2 H2, Good K g B O F2 ρ σ H2 → Ext F' H' F2 H2 → Q b H2 :=
  PostX.mono h (fun _ z => erM x.f z) fun d _ q F2 H2 G x2 => q F2 H2 G (x.trans x2)
theorem vw_and1 (ha : VT X g W B O a p) : VW X g W B O (.BoolOp .And [a] pos) p := pw_and1 ha
theorem vw_or1 (ha : VT X g W B O a p) : VW X g W B O (.BoolOp .Or [a] pos) p := pw_or1 ha
theorem vw_and {rest : List Expr} (ha : VT X g W B O a p1) (hb : VW X g W B O (.BoolOp .And (b :: rest) pos) p2) : VW X g W B O (.BoolOp .And (a :: b :: rest) pos) (pAnd p1 p2) := pw_imp (pw_and ha hb) fun σ H Q ⟨F, ρ, G, P⟩ =>
  tT_then G P fun k F1 H1 e1 G1 x1 P1 => by
    cases k with
    | true => exact ⟨F1, ρ, G1, postB_at x1 P1⟩
    | false => exact P1 F1 H1 G1 x1
theorem vw_or {rest : List Expr} (ha : VT X g W B O a p1) (hb : VW X g W B O (.BoolOp .Or (b :: rest) pos) p2) : VW X g W B O (.BoolOp .Or (a :: b :: rest) pos) (pOr p1 p2) := pw_imp (pw_or ha hb) fun σ H Q ⟨F, ρ, G, P⟩ =>
  tT_then G P fun k F1 H1 e1 G1 x1 P1 => by
    cases k with
    | true => exact P1 F1 H1 G1 x1
    | false => exact ⟨F1, ρ, G1, postB_at x1 P1⟩
theorem vt_w (h : VW X g W B O a p) : VT X g W B O a p := PW.pt h
theorem vt_not (ha : VT X g W B O a p) : VT X g W B O (.UnaryOp .Not a pos) (pNot p) := pt_imp (pt_not ha) fun σ H Q ⟨F, ρ, G, P⟩ =>
  tT_then G P fun k F1 H1 e1 G1 x1 P1 => P1 F1 H1 G1 x1
/-- and, or as values (of truths) -/
def dAndV (f1 f2 : List Dt → R Dt) : List Dt → R Dt := fun ρ => rbind (f1 ρ) fun d => rbind (dBool d) fun k => if k then f2 ρ else rok (.bl false)
def dOrV (f1 f2 : List Dt → R Dt) : List Dt → R Dt := fun ρ => rbind (f1 ρ) fun d => rbind (dBool d) fun k => if k then rok (.bl true) else f2 ρ
theorem v_one {op : PySem.BoolOp} (h : VE X g W B O kd a f) : VE X g W B O kd (.BoolOp op [a] pos) f := pe_one h
theorem v_and {rest : List Expr} (ha : VE X g W B O .ct a f1) (hb : VE X g W B O .fz (.BoolOp .And (b :: rest) pos) f2) : VE X g W B O .fz (.BoolOp .And (a :: b :: rest) pos) (dAndV f1 f2) := pe_imp (pe_and ha hb) fun σ H Q ⟨F, ρ, G, P⟩ =>
  tE_then G P fun d v F1 H1 e1 G1 x1 r1 P1 => by
    cases d <;> first | exact False.elim P1 | skip
    rename_i k
    refine ⟨k, ct_bl r1, ?_⟩
    have P2 : Post X.K g W B O .fz (if k = true then f2 ρ else rok (.bl false)) F ρ σ H Q := P1
    cases k with
    | true => exact ⟨F1, ρ, G1, post_at x1 P2⟩
    | false => exact P2 _ F1 H1 G1 x1 ok_bl
theorem v_or {rest : List Expr} (ha : VE X g W B O .ct a f1) (hb : VE X g W B O .fz (.BoolOp .Or (b :: rest) pos) f2) : VE X g W B O .fz (.BoolOp .Or (a :: b :: rest) pos) (dOrV f1 f2) := pe_imp (pe_or ha hb) fun σ H Q ⟨F, ρ, G, P⟩ =>
  tE_then G P fun d v F1 H1 e1 G1 x1 r1 P1 => by
    cases d <;> first | exact False.elim P1 | skip
    rename_i k
    refine ⟨k, ct_bl r1, ?_⟩
    have P2 : Post X.K g W B O .fz (if k = true then rok (.bl true) else f2 ρ) F ρ σ H Q := P1
    cases k with
    | false => exact ⟨F1, ρ, G1, post_at x1 P2⟩
    | true => exact P2 _ F1 H1 G1 x1 ok_bl
/-- x or y, of any values -/
def dOrT (f1 f2 : List Dt → R Dt) : List Dt → R Dt := fun ρ => rbind (f1 ρ) fun d => rbind (tru d) fun k => if k then rok d else f2 ρ
theorem v_orT {rest : List Expr} (ha : VE X g W B O .fz a f1) (hb : VE X g W B O .fz (.BoolOp .Or (b :: rest) pos) f2) : VE X g W B O .fz (.BoolOp .Or (a :: b :: rest) pos) (dOrT f1 f2) := pe_imp (pe_orT ha hb) fun σ H Q ⟨F, ρ, G, P⟩ =>
  tE_then G P fun d v F1 H1 e1 G1 x1 r1 P1 => by
    rcases q : tru d with _ | (c | k)
    · rw [q] at P1; exact P1.elim
    · exact (tru_noerr q).elim
    · rw [q] at P1
      refine ⟨k, tru_ok' G1.sub (rep_repC G1.sub r1) q, ?_⟩
      have P2 : Post X.K g W B O .fz (if k = true then rok d else f2 ρ) F ρ σ H Q := P1
      cases k with
      | true => exact P2 _ F1 H1 G1 x1 r1
      | false => exact ⟨F1, ρ, G1, post_at x1 P2⟩
def dIf (p : List Dt → R Bool) (f1 f2 : List Dt → R Dt) : List Dt → R Dt := fun ρ => rbind (p ρ) fun k => if k then f1 ρ else f2 ρ
theorem v_ife (hc : VT X g W B O c p) (ha : VE X g W B O kd a f1) (hb : VE X g W B O kd b f2) : VE X g W B O kd (.IfExp c a b pos) (dIf p f1 f2) := pe_imp (pe_ifExp hc ha hb) fun σ H Q ⟨F, ρ, G, P⟩ =>
  tT_then G P fun k F1 H1 e1 G1 x1 P1 => by
    cases k with
    | true => exact ⟨F1, ρ, G1, post_at x1 P1⟩
    | false => exact ⟨F1, ρ, G1, post_at x1 P1⟩

/-! ### items, slices -/
theorem reps_atI {K : PySem.W.Frag} {H : Hp} {l : List Dt} {vs : List V} {i : Int} {d : Dt} (h : Reps K g H l vs) (e : atI l i = some d) : ∃ v, atI vs i = some v ∧ Rep K g H d v := by
  unfold atI at e ⊢
  rw [reps_len h] at e
  cases q : ixN vs.length i with
  | none => rw [q] at e; cases e
  | some j =>
    rw [q] at e
    exact reps_get h e
def dIx : Dt → Dt → R Dt
  | .lst l, .int i => (atI l i).map Except.ok
  | .tup l, .int i => (atI l i).map Except.ok
  | .scr l, .int i => (atI l i).map fun k => Except.ok (.int k)
  | .str z, .int i => if z.length ≤ 16777216 then (atI z.cps.toList i).map fun c => Except.ok (.str ⟨#[c]⟩) else none
  | _, _ => none
theorem atI_map {α β : Type} (f : α → β) (l : List α) (i : Int) : atI (l.map f) i = (atI l i).map f := by
  unfold atI
  rw [List.length_map]
  cases ixN l.length i <;> simp
theorem v_ix (ha : VE X g W B O .ct a f1) (hb : VE X g W B O .ct b f2) (hs : PlainIx b := by exact fun _ _ => rfl) : VE X g W B O .fz (.Subscript a b pos) (d2 dIx f1 f2) := pe_imp (pe_ix ix_seq ha hb hs) fun σ H Q P => by
  refine d2_op (fun F ρ σ H d1 d2 x y Q G h1 h2 P => ?_) σ H Q P
  cases d2 <;> first | (cases d1 <;> exact False.elim P) | skip
  rename_i i
  cases d1 with
  | lst l =>
    obtain ⟨p, vs, rfl, h3, h4⟩ := h1
    have P' : Post X.K g W B O .fz ((atI l i).map Except.ok) F ρ σ H Q := P
    cases q : atI l i with
    | none => rw [q] at P'; exact False.elim P'
    | some d =>
      rw [q] at P'
      obtain ⟨v, h5, h6⟩ := reps_atI h4 q
      exact .inl ⟨p, vs, i, v, rfl, repC_int h2, SqL.of h3, h5, post_ok G P' h6⟩
  | tup l =>
    have h1 : Rep X.K g F (.tup l) x := h1
    rw [Rep] at h1
    obtain ⟨p, vs, rfl, h3, h4⟩ := h1
    have P' : Post X.K g W B O .fz ((atI l i).map Except.ok) F ρ σ H Q := P
    cases q : atI l i with
    | none => rw [q] at P'; exact False.elim P'
    | some d =>
      rw [q] at P'
      obtain ⟨v, h5, h6⟩ := reps_atI h4 q
      exact .inr (.inl ⟨p, vs, i, v, rfl, repC_int h2, sqT_mono G.sub h3, h5, post_ok G P' h6⟩)
  | scr l =>
    have h1 : Rep X.K g F (.scr l) x := h1
    rw [Rep] at h1
    obtain ⟨p, rfl, h3⟩ := h1
    have P' : Post X.K g W B O .fz ((atI l i).map fun k => Except.ok (.int k)) F ρ σ H Q := P
    cases q : atI l i with
    | none => rw [q] at P'; exact False.elim P'
    | some d =>
      rw [q] at P'
      exact .inl ⟨p, _, i, .int d, rfl, repC_int h2, sqL_mono G.sub h3, by rw [atI_map, q]; rfl, post_ok G P' ok_int⟩
  | str z =>
    by_cases c : z.length ≤ 16777216
    · have e : dIx (.str z) (.int i) = (atI z.cps.toList i).map fun c => Except.ok (.str ⟨#[c]⟩) := if_pos c
      rw [e] at P
      cases q : atI z.cps.toList i with
      | none => rw [q] at P; exact False.elim P
      | some d =>
        rw [q] at P
        exact .inr (.inr ⟨z, i, d, repC_str h1, repC_int h2, by rw [sizeLine_eq]; exact c, q, post_ok G P ok_str⟩)
    · have e : dIx (.str z) (.int i) = none := if_neg c
      rw [e] at P; exact False.elim P
  | _ => exact False.elim P
/-- a part of a slice -/
def tO (K : PySem.W.Frag) (g : Cfg) (W : WX) (B : Base) (O : List SK) (f : List Dt → R (Option Int)) : TO := fun σ H Q => ∃ F ρ, Good K g B O F ρ σ H ∧ PostX (ErE K g W B O F ρ σ) (f ρ) fun o => ∀ F' H', Good K g B O F' ρ σ H' → Ext F H F' H' → Q o H'
structure VO (X : Cx) (g : Cfg) (W : WX) (B : Base) (O : List SK) (e : Option Expr) (f : List Dt → R (Option Int)) : Prop where
  t : ∃ t, PO X e t ∧ ∀ σ H Q, tO X.K g W B O f σ H Q → t σ H Q
def oNone : List Dt → R (Option Int) := fun _ => rok none
def oInt : Dt → R (Option Int)
  | .int i => rok (some i)
  | _ => none
def oSome (f : List Dt → R Dt) : List Dt → R (Option Int) := fun ρ => rbind (f ρ) oInt
theorem vo_none : VO X g W B O none oNone := ⟨_, po_none, fun σ H Q ⟨F, ρ, G, P⟩ => P F H G (Ext.refl _ _)⟩
theorem vo_some (ha : VE X g W B O .ct a f) : VO X g W B O (some a) (oSome f) := ⟨_, po_some ha, fun σ H Q ⟨F, ρ, G, P⟩ => tE_then G P fun d v F1 H1 e1 G1 x1 r1 P1 => by
  cases d <;> first | exact False.elim P1 | exact ⟨_, ct_int r1, P1 F1 H1 G1 x1⟩⟩
def cutD (xs : List Dt) (lo hi : Option Int) : List Dt := (xs.drop (HT.sIx xs.length 0 lo)).take (HT.sIx xs.length xs.length hi - HT.sIx xs.length 0 lo)
theorem reps_cut {K : PySem.W.Frag} {H : Hp} {l : List Dt} {vs : List V} (h : Reps K g H l vs) (lo hi : Option Int) : Reps K g H (cutD l lo hi) (cutV vs lo hi) := by
  unfold cutD cutV
  rw [reps_len h]
  exact reps_take _ (reps_drop _ h)
def dSl (h : Dt → Option Int → Option Int → R Dt) (f : List Dt → R Dt) (l u : List Dt → R (Option Int)) : List Dt → R Dt := fun ρ => rbind (f ρ) fun d => rbind (l ρ) fun lo => rbind (u ρ) fun hi => h d lo hi
def sliceL : Dt → Option Int → Option Int → R Dt
  | .lst l, lo, hi => rok (.lst (cutD l lo hi))
  | _, _, _ => none
/-- texts, tuples (cut to less than the whole) -/
def sliceF : Dt → Option Int → Option Int → R Dt
  | .str z, lo, hi => if z.length ≤ 16777216 then rok (.str (cutS z lo hi)) else none
  | .tup l, lo, hi => if ¬ (HT.sIx l.length 0 lo = 0 ∧ HT.sIx l.length l.length hi = l.length) then rok (.tup (cutD l lo hi)) else none
  | _, _, _ => none
theorem slice_core {lo hi : Option Expr} {r : V → Option Int → Option Int → Hp → VK → Prop} {h : Dt → Option Int → Option Int → R Dt} {l u : List Dt → R (Option Int)} {p2 : Pos} (hr : SlR X r) (ha : VE X g W B O .ct a f) (hl : VO X g W B O lo l) (hu : VO X g W B O hi u)
    (ok : ∀ F ρ σ H d x i j Q, Good X.K g B O F ρ σ H → RepC X.K g F H d x → Post X.K g W B O kd (h d i j) F ρ σ H Q → r x i j H Q) : VE X g W B O kd (.Subscript a (.Slice lo hi none p2) pos) (dSl h f l u) := by
  obtain ⟨tl, pl, kl⟩ := hl
  obtain ⟨tu, pu, ku⟩ := hu
  refine pe_imp (pe_slice hr ha pl pu) fun σ H Q ⟨F, ρ, G, P⟩ => ?_
  refine tE_then G P fun d v F1 H1 e1 G1 x1 r1 P1 => ?_
  refine kl σ H1 _ ⟨F1, ρ, G1, PostX.mono (PostX.bind P1) (fun _ z => erM x1.f z) fun i _ P2 F2 H2 G2 x2 => ?_⟩
  refine ku σ H2 _ ⟨F2, ρ, G2, PostX.mono (PostX.bind P2) (fun _ z => erM (x1.trans x2).f z) fun j _ P3 F3 H3 G3 x3 => ?_⟩
  exact ok F3 ρ σ H3 d v i j Q G3 (repC_mono (x2.trans x3).f (x2.trans x3).h r1) (post_at (x1.trans (x2.trans x3)) P3)
theorem v_slL {lo hi : Option Expr} {l u : List Dt → R (Option Int)} {p2 : Pos} (ha : VE X g W B O .ct a f) (hl : VO X g W B O lo l) (hu : VO X g W B O hi u) : VE X g W B O .own (.Subscript a (.Slice lo hi none p2) pos) (dSl sliceL f l u) :=
  slice_core sl_list ha hl hu fun F ρ σ H d x i j Q G h1 P => by
    cases d <;> first | exact False.elim P | skip
    rename_i l
    obtain ⟨p, vs, rfl, h3, h4⟩ := h1
    exact ⟨p, vs, rfl, SqL.of h3, fun q hq => post_new G P hq (reps_cut h4 i j)⟩
theorem post_newF {K : PySem.W.Frag} {F : Hp} {ρ : List Dt} {σ : St} {H : Hp} {p : Addr} {vs : List V} {l : List Dt} {Q : VK} (G : Good K g B O F ρ σ H) (P : Post K g W B O .fz (rok (.tup l)) F ρ σ H Q) (h : H p = none) (r : Reps K g F l vs) : Q (.ref p) (upd H p (.tup vs)) := by
  refine P _ (upd F p (.tup vs)) _ (G.allocF h) ⟨same_upd (G.fnone h), same_upd h, fun a o e => ?_⟩ ?_
  · by_cases ha : a = p
    · subst ha; exact .inr h
    · rw [upd_ne ha] at e; exact .inl e
  show Rep _ _ _ _ _
  rw [Rep]
  exact ⟨p, vs, rfl, SqT.of upd_same, reps_mono (same_upd (G.fnone h)) _ _ r⟩
theorem v_slF {lo hi : Option Expr} {l u : List Dt → R (Option Int)} {p2 : Pos} (ha : VE X g W B O .ct a f) (hl : VO X g W B O lo l) (hu : VO X g W B O hi u) : VE X g W B O .fz (.Subscript a (.Slice lo hi none p2) pos) (dSl sliceF f l u) :=
  slice_core (sl_str.or sl_tup) ha hl hu fun F ρ σ H d x i j Q G h1 P => by
    cases d <;> first | exact False.elim P | skip
    · rename_i z
      by_cases c : z.length ≤ 16777216
      · have e : sliceF (.str z) i j = rok (.str (cutS z i j)) := if_pos c
        rw [e] at P
        exact .inl ⟨z, repC_str h1, by rw [sizeLine_eq]; exact c, post_ok G P ok_str⟩
      · have e : sliceF (.str z) i j = none := if_neg c
        rw [e] at P; exact False.elim P
    · rename_i l
      have h1 : Rep X.K g F (.tup l) x := h1
      rw [Rep] at h1
      obtain ⟨p, vs, rfl, h3, h4⟩ := h1
      by_cases c : ¬ (HT.sIx l.length 0 i = 0 ∧ HT.sIx l.length l.length j = l.length)
      · have e : sliceF (.tup l) i j = rok (.tup (cutD l i j)) := if_pos c
        rw [e] at P
        exact .inr ⟨p, vs, rfl, sqT_mono G.sub h3, by rw [← reps_len h4]; exact c, fun q hq => post_newF G P hq (reps_cut h4 i j)⟩
      · have e : sliceF (.tup l) i j = none := if_neg c
        rw [e] at P; exact False.elim P

/-! ### arguments, displays -/
theorem repsC_fz {K : PySem.W.Frag} {F H : Hp} (s : Same F H) : ∀ {l : List Dt} {vs : List V}, Reps K g F l vs → RepsC K g F H l vs
  | [], vs, h => by rw [Reps] at h; exact h
  | d :: ds, vs, h => by
    rw [Reps] at h
    obtain ⟨v, r, rfl, h2, h3⟩ := h
    exact ⟨v, r, rfl, rep_repC s h2, repsC_fz s h3⟩
theorem repsC_reps {K : PySem.W.Frag} {F H : Hp} (s : Same F H) : ∀ {l : List Dt} {vs : List V}, RepsC K g F H l vs → Reps K g H l vs
  | [], vs, h => by rw [Reps]; exact h
  | d :: ds, vs, h => by
    obtain ⟨v, r, rfl, h2, h3⟩ := h
    exact reps_cons (repC_rep s h2) (repsC_reps s h3)
def aNil : List Dt → R (List Dt) := fun _ => rok []
def aCons (f : List Dt → R Dt) (fs : List Dt → R (List Dt)) : List Dt → R (List Dt) := fun ρ => rbind (f ρ) fun d => rbind (fs ρ) fun ds => rok (d :: ds)
def akd : AK → Kd
  | .fz => .fz
  | .ct => .ct
theorem va_nil {ak : AK} : VA X g W B O ak [] aNil := pa_imp pa_nil fun σ H Q ⟨F, ρ, G, P⟩ => P [] F H G (Ext.refl _ _) (by cases ak <;> first | exact reps_nil | rfl)
theorem va_consA {ak : AK} (ha : VE X g W B O (akd ak) a f) (hr : VA X g W B O ak es fs) (hs : starEach (a :: es) X.env = (false, eval a X.env) :: starEach es X.env := by rfl) : VA X g W B O ak (a :: es) (aCons f fs) := pa_imp (pa_cons ha hr hs) fun σ H Q ⟨F, ρ, G, P⟩ =>
  tE_then G P fun d v F1 H1 e1 G1 x1 r1 P1 => by
    refine ⟨F1, ρ, G1, PostX.mono (PostX.bind P1) (fun _ z => erM x1.f z) fun ds _ P2 vs F2 H2 G2 x2 r2 => ?_⟩
    refine P2 _ F2 H2 G2 (x1.trans x2) ?_
    cases ak with
    | fz => exact reps_cons (rep_mono x2.f _ _ r1) r2
    | ct => exact ⟨v, vs, rfl, repC_mono x2.f x2.h r1, r2⟩
theorem va_cons (ha : VE X g W B O .ct a f) (hr : VA X g W B O .ct es fs) (hs : starEach (a :: es) X.env = (false, eval a X.env) :: starEach es X.env := by rfl) : VA X g W B O .ct (a :: es) (aCons f fs) := va_consA (ak := .ct) ha hr hs
theorem va_consF (ha : VE X g W B O .fz a f) (hr : VA X g W B O .fz es fs) (hs : starEach (a :: es) X.env = (false, eval a X.env) :: starEach es X.env := by rfl) : VA X g W B O .fz (a :: es) (aCons f fs) := va_consA (ak := .fz) ha hr hs
def dLst (fs : List Dt → R (List Dt)) : List Dt → R Dt := fun ρ => rbind (fs ρ) fun ds => if ds.length ≤ 1000 then rok (.lst ds) else none
def dTup (fs : List Dt → R (List Dt)) : List Dt → R Dt := fun ρ => rbind (fs ρ) fun ds => if ds.length ≤ 1000 then rok (.tup ds) else none
theorem v_lst (h : VA X g W B O .fz es fs) : VE X g W B O .own (.List es pos) (dLst fs) := pe_imp (pe_lst h) fun σ H Q ⟨F, ρ, G, P⟩ =>
  ⟨F, ρ, G, PostX.mono (PostX.bind P) (fun _ z => z) fun ds _ P1 vs F1 H1 G1 x1 r1 => by
    have r2 : Reps X.K g F1 ds vs := r1
    by_cases c : ds.length ≤ 1000
    · rw [if_pos c] at P1
      exact ⟨by rw [← reps_len r2, sizeLine_eq]; omega, fun p hp => post_new G1 (post_at (kd := .own) x1 P1) hp r2⟩
    · rw [if_neg c] at P1; exact P1.elim⟩
theorem v_tup {k0 : Nat} (h : VA X g W B O .fz es fs) : VE X g W B O .fz (.Tuple es k0 pos) (dTup fs) := pe_imp (pe_tup h) fun σ H Q ⟨F, ρ, G, P⟩ =>
  ⟨F, ρ, G, PostX.mono (PostX.bind P) (fun _ z => z) fun ds _ P1 vs F1 H1 G1 x1 r1 => by
    have r2 : Reps X.K g F1 ds vs := r1
    by_cases c : ds.length ≤ 1000
    · rw [if_pos c] at P1
      exact ⟨by rw [← reps_len r2, sizeLine_eq]; omega, fun p hp => post_newF G1 (post_at (kd := .fz) x1 P1) hp r2⟩
    · rw [if_neg c] at P1; exact P1.elim⟩
end
end VL

set_option Elab.async false
set_option linter.all false
set_option maxRecDepth 100000
set_option maxHeartbeats 4000000
namespace VL
open PySem PySem.Spec PyProof.Rows L2

/-! ### the state changed -/
section
variable {K : PySem.W.Frag} {g : Cfg} {B : Base} {O : List SK} {F F' H H' : Hp} {ρ : List Dt} {σ : St} {d : Dt} {v : V}
theorem getE_set {α : Type} {l : List α} {i j : Nat} {x y : α} (h : (l.set i x)[j]? = some y) : (j = i ∧ y = x) ∨ (j ≠ i ∧ l[j]? = some y) := by
  by_cases e : i = j
  · subst e
    rw [List.getElem?_set] at h
    simp only [if_true] at h
    split at h
    · exact .inl ⟨rfl, (Option.some.inj h).symm⟩
    · cases h
  · rw [List.getElem?_set_ne e] at h
    exact .inr ⟨fun z => e z.symm, h⟩
theorem Good.set (G : Good K g B O F ρ σ H) (i : Nat) (r : Rep K g F d v) : Good K g B (O.set i .fz) F (ρ.set i d) (σ.set i (some v)) H where
  lenO := by simpa using G.lenO
  lenR := by simpa using G.lenR
  b0 := G.b0
  bF := G.bF
  sub := G.sub
  new := G.new
  slot := fun j k d' o h1 h2 h3 => by
    rcases getE_set h1 with ⟨a1, a2⟩ | ⟨a1, a2⟩
    · subst a1 a2
      rcases getE_set h2 with ⟨_, b2⟩ | ⟨b1, _⟩
      · rcases getE_set h3 with ⟨_, c2⟩ | ⟨c1, _⟩
        · subst b2 c2; exact ⟨v, rfl, r⟩
        · exact absurd rfl c1
      · exact absurd rfl b1
    · rw [List.getElem?_set_ne (Ne.symm a1)] at h2 h3
      exact G.slot j k d' o a2 h2 h3
  apart := fun j k p h1 h2 h3 h4 => by
    rcases getE_set h1 with ⟨_, a2⟩ | ⟨a1, a2⟩
    · cases a2
    · rcases getE_set h2 with ⟨_, b2⟩ | ⟨b1, b2⟩
      · cases b2
      · rw [List.getElem?_set_ne (Ne.symm a1)] at h3
        rw [List.getElem?_set_ne (Ne.symm b1)] at h4
        exact G.apart j k p a2 b2 h3 h4
theorem Good.setO (G : Good K g B O F ρ σ H) (i : Nat) (r : Own K g B F H d v) (ap : ∀ j : Nat, O[j]? = some SK.own → σ[j]? ≠ some (some v)) : Good K g B (O.set i .own) F (ρ.set i d) (σ.set i (some v)) H where
  lenO := by simpa using G.lenO
  lenR := by simpa using G.lenR
  b0 := G.b0
  bF := G.bF
  sub := G.sub
  new := G.new
  slot := fun j k d' o h1 h2 h3 => by
    rcases getE_set h1 with ⟨a1, a2⟩ | ⟨a1, a2⟩
    · subst a1 a2
      rcases getE_set h2 with ⟨_, b2⟩ | ⟨b1, _⟩
      · rcases getE_set h3 with ⟨_, c2⟩ | ⟨c1, _⟩
        · subst b2 c2; exact ⟨v, rfl, r⟩
        · exact absurd rfl c1
      · exact absurd rfl b1
    · rw [List.getElem?_set_ne (Ne.symm a1)] at h2 h3
      exact G.slot j k d' o a2 h2 h3
  apart := fun j k p h1 h2 h3 h4 => by
    rcases getE_set h1 with ⟨a1, _⟩ | ⟨a1, a2⟩
    · rcases getE_set h2 with ⟨b1, _⟩ | ⟨b1, b2⟩
      · rw [a1, b1]
      · rw [List.getElem?_set_ne (Ne.symm b1)] at h4
        rcases getE_set h3 with ⟨_, c2⟩ | ⟨c1, _⟩
        · rw [c2] at h4; exact absurd h4 (ap k b2)
        · exact absurd a1 c1
    · rw [List.getElem?_set_ne (Ne.symm a1)] at h3
      rcases getE_set h2 with ⟨b1, _⟩ | ⟨b1, b2⟩
      · rcases getE_set h4 with ⟨_, c2⟩ | ⟨c1, _⟩
        · rw [c2] at h3; exact absurd h3 (ap j a2)
        · exact absurd b1 c1
      · rw [List.getElem?_set_ne (Ne.symm b1)] at h4
        exact G.apart j k p a2 b2 h3 h4
/-- an own list is written -/
theorem Good.writeO (G : Good K g B O F ρ σ H) {i : Nat} {p : Addr} {vs vs' : List V} {l' : List Dt} (hO : O[i]? = some .own) (hσ : σ[i]? = some (some (.ref p))) (hp : H p = some (.lst vs)) (hF : F p = none) (hB : B.H p = none) (r : Reps K g F l' vs') :
    Good K g B O F (ρ.set i (.lst l')) σ (upd H p (.lst vs')) where
  lenO := G.lenO
  lenR := by simpa using G.lenR
  b0 := fun a o e => by rw [upd_ne (ne_of_none e hB)]; exact G.b0 _ _ e
  bF := G.bF
  sub := fun a o e => by rw [upd_ne (ne_of_none e hF)]; exact G.sub _ _ e
  new := G.new
  slot := fun j k d' o h1 h2 h3 => by
    by_cases hj : j = i
    · subst hj
      rw [hO] at h1; cases h1
      rw [hσ] at h3; cases h3
      rcases getE_set h2 with ⟨_, b2⟩ | ⟨b1, _⟩
      · subst b2; exact ⟨_, rfl, p, vs', l', rfl, rfl, upd_same, hF, hB, r⟩
      · exact absurd rfl b1
    · rw [List.getElem?_set_ne (Ne.symm hj)] at h2
      have q := G.slot j k d' o h1 h2 h3
      cases k with
      | un => trivial
      | fz => exact q
      | own =>
        obtain ⟨v, e, p', vs2, l2, e1, e2, e3, e4, e5, e6⟩ := q
        refine ⟨v, e, p', vs2, l2, e1, e2, ?_, e4, e5, e6⟩
        have ne : p' ≠ p := fun z => hj (G.apart j i p h1 hO (by rw [h3, e, e1, z]) hσ)
        rw [upd_ne ne]; exact e3
      | me =>
        obtain ⟨q', e1, e2, m⟩ := q
        have ne := m.ne hp
        obtain ⟨c, st, dx, ws, m1, m2, m3, m4, m5⟩ := m
        exact ⟨q', e1, e2, c, st, dx, ws, m1, by rw [upd_ne ne]; exact m2, m3, m4, m5⟩
      | bo => exact q
  apart := G.apart
theorem Good.unset (G : Good K g B O F ρ σ H) (i : Nat) : Good K g B (O.set i .un) F ρ σ H where
  lenO := by simpa using G.lenO
  lenR := G.lenR
  b0 := G.b0
  bF := G.bF
  sub := G.sub
  new := G.new
  slot := fun j k d' o h1 h2 h3 => by
    rcases getE_set h1 with ⟨a1, a2⟩ | ⟨a1, a2⟩
    · subst a2; trivial
    · exact G.slot j k d' o a2 h2 h3
  apart := fun j k p h1 h2 h3 h4 => by
    rcases getE_set h1 with ⟨_, a2⟩ | ⟨a1, a2⟩
    · cases a2
    · rcases getE_set h2 with ⟨_, b2⟩ | ⟨b1, b2⟩
      · cases b2
      · exact G.apart j k p a2 b2 h3 h4
theorem Good.fzSlot (G : Good K g B O F ρ σ H) {i : Nat} (hO : O[i]? = some .own) : ∃ F1, Good K g B (O.set i .fz) F1 ρ σ H ∧ Same F F1 := by
  obtain ⟨d, o, h1, h2, v, h3, p, vs, l, e1, e2, e3, e4, e5, e6⟩ := slot_there G hO
  subst h3 e1 e2
  have G1 := (G.unset i).freeze e3 e4 e5 fun j hj hs => by
    rcases getE_set hj with ⟨_, a2⟩ | ⟨a1, a2⟩
    · cases a2
    · exact a1 (G.apart j i p a2 hO hs h2)
  refine ⟨upd F p (.lst vs), { G1 with lenO := by simpa using G.lenO, slot := fun j k d' o' a1 a2 a3 => ?_, apart := fun j k q a1 a2 a3 a4 => ?_ }, same_upd e4⟩
  · rcases getE_set a1 with ⟨b1, b2⟩ | ⟨b1, b2⟩
    · subst b1 b2
      rw [h1] at a2; cases a2
      rw [h2] at a3; cases a3
      refine ⟨_, rfl, ?_⟩
      rw [Rep]
      exact ⟨p, vs, rfl, upd_same, reps_mono (same_upd e4) _ _ e6⟩
    · exact G1.slot j k d' o' (by rw [List.getElem?_set_ne (Ne.symm b1)]; exact b2) a2 a3
  · rcases getE_set a1 with ⟨_, b2⟩ | ⟨b1, b2⟩
    · cases b2
    · rcases getE_set a2 with ⟨_, c2⟩ | ⟨c1, c2⟩
      · cases c2
      · exact G.apart j k q b2 c2 a3 a4
/-- a weaker look at the slots -/
def wk : SK → SK → Bool
  | _, .un => true
  | .fz, .fz => true
  | .own, .own => true
  | .own, .fz => true
  | .me, .me => true
  | .bo, .bo => true
  | _, _ => false
def wkAll : List SK → List SK → Bool
  | [], [] => true
  | a :: as, b :: bs => wk a b && wkAll as bs
  | _, _ => false
theorem Good.weakN : ∀ (O1 P1 pre : List SK) {F : Hp}, wkAll O1 P1 = true → Good K g B (pre ++ O1) F ρ σ H → ∃ F1, Good K g B (pre ++ P1) F1 ρ σ H ∧ Same F F1
  | [], [], pre, F, _, G => ⟨F, G, fun _ _ z => z⟩
  | [], _ :: _, _, _, h, _ => by simp [wkAll] at h
  | _ :: _, [], _, _, h, _ => by simp [wkAll] at h
  | a :: as, b :: bs, pre, F, h, G => by
    simp only [wkAll, Bool.and_eq_true] at h
    have step : ∃ F1, Good K g B (pre ++ b :: as) F1 ρ σ H ∧ Same F F1 := by
      cases b with
      | un =>
        have := G.unset pre.length
        rw [List.set_append_right _ _ (Nat.le_refl _), Nat.sub_self, List.set_cons_zero] at this
        exact ⟨F, this, fun _ _ z => z⟩
      | fz =>
        cases a with
        | fz => exact ⟨F, G, fun _ _ z => z⟩
        | own =>
          obtain ⟨F1, this, sm⟩ := G.fzSlot (i := pre.length) (by simp)
          rw [List.set_append_right _ _ (Nat.le_refl _), Nat.sub_self, List.set_cons_zero] at this
          exact ⟨F1, this, sm⟩
        | un => simp [wk] at h
        | me => simp [wk] at h
        | bo => simp [wk] at h
      | own =>
        cases a with
        | own => exact ⟨F, G, fun _ _ z => z⟩
        | _ => simp [wk] at h
      | me =>
        cases a with
        | me => exact ⟨F, G, fun _ _ z => z⟩
        | _ => simp [wk] at h
      | bo =>
        cases a with
        | bo => exact ⟨F, G, fun _ _ z => z⟩
        | _ => simp [wk] at h
    obtain ⟨F1, G1, sm1⟩ := step
    obtain ⟨F2, G2, sm2⟩ := Good.weakN as bs (pre ++ [b]) h.2 (by simpa using G1)
    exact ⟨F2, by simpa using G2, sm1.trans sm2⟩
theorem Good.weak {O1 : List SK} (G : Good K g B O F ρ σ H) (h : wkAll O O1 = true) : ∃ F1, Good K g B O1 F1 ρ σ H ∧ Same F F1 := Good.weakN O O1 [] h G
end

/-! ### statements -/
inductive Fl where
  | nx (ρ : List Dt) | rt (d : Dt)
inductive RK where
  | flat | fz | own | ownf | mu
def RetOk (K : PySem.W.Frag) (g : Cfg) (B : Base) (F H : Hp) : RK → Dt → V → Prop
  | .flat, d, v => isFlat d = true ∧ Rep K g F d v
  | .fz, d, v => Rep K g F d v
  | .own, d, v => Own K g B F H d v
  | .ownf, d, v => Own K g B F H d v ∧ ∃ l, d = .lst l ∧ l.all isFlat = true
  | .mu, d, v => ∃ r d0 p, d = .tup [r, d0] ∧ B.me = some p ∧ Rep K g F r v ∧ MeAt K g F H p d0
/-- what a call leaves: all that stood stands; what is newly frozen is new -/
def RetG (B : Base) (F' H' : Hp) : Prop := Ext B.F B.H F' H' ∧ Same F' H'
theorem Good.ret {K : PySem.W.Frag} {g : Cfg} {B : Base} {O : List SK} {F H : Hp} {ρ : List Dt} {σ : St} (G : Good K g B O F ρ σ H) : RetG B F H := ⟨⟨G.bF, G.b0, G.new⟩, G.sub⟩
def PostS (K : PySem.W.Frag) (g : Cfg) (W : WX) (B : Base) (rk : RK) (O : List SK) (F : Hp) (r : R Fl) (D : Ends) : Prop := PostX (ErW g W B) r fun fl => match fl with
  | .nx ρ' => ∀ F' σ' H', Good K g B O F' ρ' σ' H' → Same F F' → D.nx σ' H'
  | .rt d => ∀ v F' H', RetG B F' H' → RetOk K g B F' H' rk d v → D.rt v H'
def tS (K : PySem.W.Frag) (g : Cfg) (W : WX) (B : Base) (rk : RK) (O O' : List SK) (f : List Dt → R Fl) : TS := fun D σ H => ∃ F ρ, Good K g B O F ρ σ H ∧ PostS K g W B rk O' F (f ρ) D
def VS (X : Cx) (g : Cfg) (W : WX) (B : Base) (rk : RK) (O O' : List SK) (st : Stmt) (f : List Dt → R Fl) : Prop := PS X st (tS X.K g W B rk O O' f)
def VSs (X : Cx) (g : Cfg) (W : WX) (B : Base) (rk : RK) (O O' : List SK) (st : List Stmt) (f : List Dt → R Fl) : Prop := PSs X st (tS X.K g W B rk O O' f)
theorem PostS.at {K : PySem.W.Frag} {g : Cfg} {W : WX} {B : Base} {rk : RK} {O : List SK} {F F' : Hp} {r : R Fl} {D : Ends} (s : Same F F') (P : PostS K g W B rk O F r D) : PostS K g W B rk O F' r D := PostX.mono P (fun _ z => z) fun fl e q => by
  cases fl with
  | nx ρ' => exact fun F2 σ' H' G' s' => q F2 σ' H' G' (s.trans s')
  | rt d => exact q
def dNext : List Dt → R Fl := fun ρ => rok (.nx ρ)
def dSeq (f1 f2 : List Dt → R Fl) : List Dt → R Fl := fun ρ => rbind (f1 ρ) fun fl => match fl with
  | .nx ρ' => f2 ρ'
  | .rt d => rok (.rt d)
section
variable {X : Cx} {g : Cfg} {W : WX} {B : Base} {O O1 O2 O' : List SK} {pos : Pos} {kd : Kd} {rk : RK} {a b c e : Expr} {es : List Expr} {f f1 f2 f3 : List Dt → R Dt} {fs : List Dt → R (List Dt)} {p p1 p2 : List Dt → R Bool} {s s1 s2 : List Dt → R Fl} {st : Stmt} {rest : List Stmt}
theorem vss_nil : VSs X g W B rk O O [] dNext := pss_imp pss_nil fun D σ H ⟨F, ρ, G, P⟩ => P F σ H G (fun _ _ z => z)
theorem vss_cons (h1 : VS X g W B rk O O1 st s1) (h2 : VSs X g W B rk O1 O2 rest s2) : VSs X g W B rk O O2 (st :: rest) (dSeq s1 s2) := pss_imp (pss_cons h1 h2) fun D σ H ⟨F, ρ, G, P⟩ =>
  ⟨F, ρ, G, PostX.mono (PostX.bind P) (fun _ z => z) fun fl e q => by
    cases fl with
    | nx ρ' => exact fun F' σ' H' G' s' => ⟨F', ρ', G', PostS.at s' q⟩
    | rt d => exact q⟩
theorem vss_one (h1 : VS X g W B rk O O1 st s1) : VSs X g W B rk O O1 [st] s1 := pss_one h1
theorem PostS.weak {F : Hp} {r : R Fl} {D : Ends} {K : PySem.W.Frag} (h : wkAll O1 O2 = true) (P : PostS K g W B rk O2 F r D) : PostS K g W B rk O1 F r D :=
  PostX.mono P (fun _ z => z) fun fl e q => by
    cases fl with
    | nx ρ' =>
      intro F' σ' H' G' s'
      obtain ⟨F1, G1, sm⟩ := G'.weak h
      exact q F1 σ' H' G1 (s'.trans sm)
    | rt d => exact q
/-- what is known of the slots is weakened: behind, ahead -/
theorem vss_w (h : VSs X g W B rk O O1 rest s) (w : wkAll O1 O2 = true := by rfl) : VSs X g W B rk O O2 rest s := pss_imp h fun D σ H ⟨F, ρ, G, P⟩ => ⟨F, ρ, G, P.weak w⟩
theorem vss_p (h : VSs X g W B rk O1 O2 rest s) (w : wkAll O O1 = true := by rfl) : VSs X g W B rk O O2 rest s := pss_imp h fun D σ H ⟨F, ρ, G, P⟩ => by
  obtain ⟨F1, G1, sm⟩ := G.weak w
  exact ⟨F1, ρ, G1, PostS.at sm P⟩
theorem vs_w (h : VS X g W B rk O O1 st s) (w : wkAll O1 O2 = true := by rfl) : VS X g W B rk O O2 st s := ps_imp h fun D σ H ⟨F, ρ, G, P⟩ => ⟨F, ρ, G, P.weak w⟩
theorem vs_p (h : VS X g W B rk O1 O2 st s) (w : wkAll O O1 = true := by rfl) : VS X g W B rk O O2 st s := ps_imp h fun D σ H ⟨F, ρ, G, P⟩ => by
  obtain ⟨F1, G1, sm⟩ := G.weak w
  exact ⟨F1, ρ, G1, PostS.at sm P⟩
theorem vs_pass : VS X g W B rk O O (.Pass pos) dNext := ps_imp ps_pass fun D σ H ⟨F, ρ, G, P⟩ => P F σ H G (fun _ _ z => z)
theorem vs_doc {x j pos'} : VS X g W B rk O O (.Expr (.Constant (.str x) j pos) pos') dNext := ps_imp ps_doc fun D σ H ⟨F, ρ, G, P⟩ => P F σ H G (fun _ _ z => z)
def dDrop (f : List Dt → R Dt) : List Dt → R Fl := fun ρ => rbind (f ρ) fun _ => rok (.nx ρ)
theorem vs_expr (h : VE X g W B O kd e f) (hs : swapsWith e none pos.line X.env = pure false := by rfl) : VS X g W B rk O O (.Expr e pos) (dDrop f) := ps_imp (ps_expr h hs) fun D σ H ⟨F, ρ, G, P⟩ =>
  tE_then G P fun d v F1 H1 e1 G1 x1 r1 P1 => P1 F1 σ H1 G1 x1.f
def dSet (i : Nat) (f : List Dt → R Dt) : List Dt → R Fl := fun ρ => rbind (f ρ) fun d => rok (.nx (ρ.set i d))
theorem vs_set (i : Nat) {x : Str} {pos' : Pos} (hN : X.N.Nodup) (h : VE X g W B O .fz e f) (hi : X.N[i]? = some x := by rfl) (hx : Loc X.env.scope x := by first | exact Or.inl rfl | exact Or.inr rfl) (hs : swapsWith e (some (.Name x pos')) pos.line X.env = pure false := by rfl)
    (hf : X.fn x = true ∨ X.env.scope.names.lookup x = some .local := by first | exact .inl rfl | exact .inr rfl) : VS X g W B rk O (O.set i .fz) (.Assign [.Name x pos'] e pos) (dSet i f) := ps_imp (ps_set hN hi hx h hs hf) fun D σ H ⟨F, ρ, G, P⟩ =>
  tE_then G P fun d v F1 H1 e1 G1 x1 r1 P1 => P1 F1 _ H1 (G1.set i r1) x1.f
theorem vs_setO (i : Nat) {x : Str} {pos' : Pos} (hN : X.N.Nodup) (h : VE X g W B O .own e f) (hi : X.N[i]? = some x := by rfl) (hx : Loc X.env.scope x := by first | exact Or.inl rfl | exact Or.inr rfl) (hs : swapsWith e (some (.Name x pos')) pos.line X.env = pure false := by rfl)
    (hf : X.fn x = true ∨ X.env.scope.names.lookup x = some .local := by first | exact .inl rfl | exact .inr rfl) : VS X g W B rk O (O.set i .own) (.Assign [.Name x pos'] e pos) (dSet i f) := ps_imp (ps_set hN hi hx h hs hf) fun D σ H ⟨F, ρ, G, P⟩ =>
  tE_then G P fun d v F1 H1 e1 G1 x1 r1 P1 => P1 F1 _ H1 (G1.setO i r1.1 r1.2.1) x1.f
def retC : RK → Dt → Bool
  | .flat, d => isFlat d
  | .fz, _ => true
  | .own, _ => true
  | .ownf, .lst l => l.all isFlat
  | .ownf, _ => false
  | .mu, _ => false
def dRet (rk : RK) (f : List Dt → R Dt) : List Dt → R Fl := fun ρ => rbind (f ρ) fun d => if retC rk d = true then rok (.rt d) else none
def rkd : RK → Kd
  | .flat => .fz
  | .fz => .fz
  | .own => .own
  | .ownf => .own
  | .mu => .fz
theorem retOk_of {K : PySem.W.Frag} {H0 F : Hp} {σ : St} {H : Hp} {d : Dt} {v : V} (c : retC rk d = true) (r : ResOk K g B O H0 F σ H (rkd rk) d v) : RetOk K g B F H rk d v := by
  cases rk with
  | flat => exact ⟨c, r⟩
  | fz => exact r
  | own => exact r.1
  | ownf =>
    refine ⟨r.1, ?_⟩
    cases d <;> first | cases c | exact ⟨_, rfl, c⟩
  | mu => cases c
theorem vs_ret (h : VE X g W B O (rkd rk) e f) : VS X g W B rk O O' (.Return (some e) pos) (dRet rk f) := ps_imp (ps_ret h) fun D σ H ⟨F, ρ, G, P⟩ =>
  tE_then G P fun d v F1 H1 e1 G1 x1 r1 P1 => by
    by_cases c : retC rk d = true
    · rw [if_pos c] at P1
      exact P1 v F1 H1 G1.ret (retOk_of c r1)
    · rw [if_neg c] at P1; exact P1.elim
/-- return of an own list's name -/
theorem vs_retO (i : Nat) {x : Str} {pos' : Pos} (hk : rkd rk = .own := by rfl) (hO : O[i]? = some .own := by rfl) (hN : X.N[i]? = some x := by rfl) (hv : Vis X.env.scope x := by first | exact Or.inl rfl | exact Or.inr (Or.inl rfl) | exact Or.inr (Or.inr rfl)) (hd : (x == ("__debug__" : Str)) = false := by decide)
    (hcd : (x == ("__classdict__" : Str)) = false := by decide) : VS X g W B rk O O' (.Return (some (.Name x pos')) pos) (dRet rk (dVar i)) := ps_imp (ps_ret (pe_var hN hv hd hcd)) fun D σ H ⟨F, ρ, G, P⟩ => by
    obtain ⟨d, o, h1, h2, v, h3, h4⟩ := slot_there G hO
    subst h3
    have e : dVar i ρ = some (.ok d) := by unfold dVar; rw [h1]; rfl
    have P1 : PostS X.K g W B rk O' F (if retC rk d = true then rok (.rt d) else none) D := by
      have P0 := P
      unfold dRet at P0
      rw [e] at P0
      exact P0
    by_cases c : retC rk d = true
    · rw [if_pos c] at P1
      refine ⟨v, h2, P1 v F H G.ret ?_⟩
      cases rk with
      | flat => cases hk
      | fz => cases hk
      | own => exact h4
      | ownf =>
        refine ⟨h4, ?_⟩
        cases d <;> first | cases c | exact ⟨_, rfl, c⟩
      | mu => cases hk
    · rw [if_neg c] at P1; exact P1.elim
def dRetN (rk : RK) : List Dt → R Fl := fun _ => if retC rk .non = true then rok (.rt .non) else none
def dIfS (p : List Dt → R Bool) (s1 s2 : List Dt → R Fl) : List Dt → R Fl := fun ρ => rbind (p ρ) fun k => if k then s1 ρ else s2 ρ
theorem vs_if {b1 b2 : List Stmt} (hc : VT X g W B O c p) (ha : VSs X g W B rk O O1 b1 s1) (hb : VSs X g W B rk O O1 b2 s2) : VS X g W B rk O O1 (.If c b1 b2 pos) (dIfS p s1 s2) := ps_imp (ps_if hc ha hb) fun D σ H ⟨F, ρ, G, P⟩ =>
  tT_then G P fun k F1 H1 e1 G1 x1 P1 => by
    cases k with
    | true => exact ⟨F1, ρ, G1, PostS.at x1.f P1⟩
    | false => exact ⟨F1, ρ, G1, PostS.at x1.f P1⟩
def dWhile : Nat → (List Dt → R Bool) → (List Dt → R Fl) → List Dt → R Fl
  | 0, _, _, _ => none
  | n + 1, p, s, ρ => rbind (p ρ) fun k => if k then rbind (s ρ) fun fl => match fl with
    | .nx ρ' => dWhile n p s ρ'
    | .rt d => rok (.rt d) else rok (.nx ρ)
theorem vs_while (n : Nat) {body : List Stmt} (hp : PassesOwn (model X.prog X.w) X.A X.env X.xe) (hc : VT X g W B O c p) (hb : VSs X g W B rk O O body s) : VS X g W B rk O O (.While c body [] pos) (dWhile n p s) := ps_imp (ps_while hp hc hb) fun D σ H ⟨F, ρ, G, P⟩ => by
  refine ⟨fun m σ H => ∃ F ρ, Good X.K g B O F ρ σ H ∧ PostS X.K g W B rk O F (dWhile m p s ρ) D, ⟨n, F, ρ, G, P⟩, ?_⟩
  rintro m σ H ⟨F, ρ, G, P⟩
  cases m with
  | zero => exact P.elim
  | succ m =>
    refine tT_then G P fun k F1 H1 e1 G1 x1 P1 => ?_
    cases k with
    | true =>
      refine ⟨fun σ' H' => ∃ F ρ, Good X.K g B O F ρ σ' H' ∧ PostS X.K g W B rk O F (dWhile m p s ρ) D, fun σ' H' h => ⟨m, Nat.lt_succ_self m, h⟩, F1, ρ, G1, ?_⟩
      refine PostX.mono (PostX.bind (PostS.at x1.f P1)) (fun _ z => z) fun fl e q => ?_
      cases fl with
      | nx ρ' => exact fun F' σ' H' G' s' => ⟨F', ρ', G', PostS.at s' q⟩
      | rt d => exact q
    | false => exact P1 F1 σ H1 G1 x1.f

/-! ### targets, walks -/
/-- the target's slots are is; it takes the item d -/
def tG (K : PySem.W.Frag) (g : Cfg) (B : Base) (O O1 : List SK) (is : List Nat) (set : Dt → List Dt → Option (List Dt)) : TG := fun v σ H Q => ∃ F ρ d, Good K g B O F ρ σ H ∧ Rep K g F d v ∧
  ∃ ρ', set d ρ = some ρ' ∧ ∀ σ', Good K g B O1 F ρ' σ' H → wipe σ' is = wipe σ is → Q σ' H
def VG (X : Cx) (g : Cfg) (B : Base) (O O1 : List SK) (is : List Nat) (tg : Expr) (set : Dt → List Dt → Option (List Dt)) : Prop := PG X tg (tG X.K g B O O1 is set)
theorem pg_imp {tg : Expr} {t t' : TG} (h : PG X tg t) (k : ∀ v σ H Q, t' v σ H Q → t v σ H Q) : PG X tg t' := ⟨fun pins s σ H v u Q I r q => h.run pins s σ H v u Q I r (k _ _ _ _ q)⟩
def setN (i : Nat) : Dt → List Dt → Option (List Dt) := fun d ρ => some (ρ.set i d)
theorem wipe_get : ∀ (vs : List Nat) (σ : St) (k : Nat), (wipe σ vs)[k]? = if k ∈ vs then (σ[k]?).map fun _ => none else σ[k]?
  | [], σ, k => by simp [wipe]
  | v :: vs, σ, k => by
    unfold wipe
    by_cases e : v = k
    · subst e
      rw [List.getElem?_set]
      simp only [if_true, wipe_length, List.mem_cons, true_or]
      split
      · rename_i h; rw [List.getElem?_eq_getElem h]; rfl
      · rename_i h; rw [List.getElem?_eq_none (by omega)]; rfl
    · rw [List.getElem?_set_ne e, wipe_get vs σ k]
      have : (k ∈ v :: vs) ↔ k ∈ vs := by
        rw [List.mem_cons]
        exact ⟨fun z => z.resolve_left fun q => e q.symm, .inr⟩
      simp only [this]
theorem wipe_set {σ : St} {i : Nat} {x : Option V} {vs : List Nat} (h : i ∈ vs) : wipe (σ.set i x) vs = wipe σ vs := by
  apply List.ext_getElem?
  intro k
  rw [wipe_get, wipe_get]
  by_cases hk : k ∈ vs
  · rw [if_pos hk, if_pos hk]
    by_cases e : i = k
    · subst e
      by_cases hl : i < σ.length
      · rw [List.getElem?_set_self hl, List.getElem?_eq_getElem hl]; rfl
      · rw [List.getElem?_eq_none (by simpa using hl), List.getElem?_eq_none (by simpa using hl)]
    · rw [List.getElem?_set_ne e]
  · rw [if_neg hk, if_neg hk]
    have e : i ≠ k := fun z => hk (z ▸ h)
    rw [List.getElem?_set_ne e]
theorem vg_name (i : Nat) {x : Str} (hN : X.N.Nodup) (hi : X.N[i]? = some x := by rfl) (hx : Loc X.env.scope x := by first | exact Or.inl rfl | exact Or.inr rfl) (hf : X.fn x = true ∨ X.env.scope.names.lookup x = some .local := by first | exact .inl rfl | exact .inr rfl) :
    VG X g B O (O.set i .fz) [i] (.Name x pos) (setN i) := pg_imp (pg_name hN hi hx hf) fun v σ H Q ⟨F, ρ, d, G, r, ρ', e, P⟩ => by
  cases e
  exact P _ (G.set i r) (wipe_set (by simp))
def setT2 (i j : Nat) : Dt → List Dt → Option (List Dt) := fun d ρ => match d with
  | .tup [a, b] => some ((ρ.set i a).set j b)
  | _ => none
theorem vg_tup2 (i j : Nat) {x y : Str} {px py : Pos} {k : Nat} (hc : X.calm = true) (hN : X.N.Nodup) (hi : X.N[i]? = some x := by rfl) (hj : X.N[j]? = some y := by rfl) (hx : Loc X.env.scope x := by first | exact Or.inl rfl | exact Or.inr rfl) (hy : Loc X.env.scope y := by first | exact Or.inl rfl | exact Or.inr rfl)
    (hf : X.fn x = true ∨ X.env.scope.names.lookup x = some .local := by first | exact .inl rfl | exact .inr rfl) (hf' : X.fn y = true ∨ X.env.scope.names.lookup y = some .local := by first | exact .inl rfl | exact .inr rfl) :
    VG X g B O ((O.set i .fz).set j .fz) [i, j] (.Tuple [.Name x px, .Name y py] k pos) (setT2 i j) := by
  refine pg_imp (pg_tup (n := 2) hc (pgs_cons (pg_name hN hi hx hf) (pgs_cons (pg_name hN hj hy hf') pgs_nil rfl) rfl) rfl rfl) fun v σ H Q ⟨F, ρ, d, G, r, ρ', e, P⟩ => ?_
  cases d with
  | tup l =>
    match l, e, r with
    | [a, b], e, r =>
      cases e
      rw [Rep] at r
      obtain ⟨p, vs, rfl, h2, h3⟩ := r
      rw [Reps] at h3
      obtain ⟨v1, r1, rfl, q1, q2⟩ := h3
      rw [Reps] at q2
      obtain ⟨v2, r2, rfl, q3, q4⟩ := q2
      rw [Reps] at q4
      subst q4
      refine ⟨p, _, rfl, sqT_mono G.sub h2, rfl, v1, _, rfl, v2, _, rfl, rfl, ?_⟩
      exact P _ ((G.set i q1).set j q3) (by rw [wipe_set (by simp), wipe_set (by simp)])
    | [], e, _ => cases e
    | [_], e, _ => cases e
    | _ :: _ :: _ :: _, e, _ => cases e
  | _ => cases e
/-- what is walked gives the items ds, whatever the body does to the rest -/
def WalkOk (K : PySem.W.Frag) (g : Cfg) (B : Base) (J : It) (ds : List Dt) (F : Hp) : Prop := ∀ (O : List SK) (i : Nat) (ρ : List Dt) (σ : St) (H F1 : Hp), Good K g B O F1 ρ σ H → Same F F1 → match ds[i]? with
  | none => J.stop i H
  | some d => J.go i H ∧ ∀ x H', J.yld i H x H' → ∃ F', Good K g B O F' ρ σ H' ∧ Ext F1 H F' H' ∧ Rep K g F' d x
def tI (K : PySem.W.Frag) (g : Cfg) (W : WX) (B : Base) (O : List SK) (it : List Dt → R (List Dt)) : TI := fun σ H R => ∃ F ρ, Good K g B O F ρ σ H ∧
  PostX (ErE K g W B O F ρ σ) (it ρ) fun ds => ∀ J F' H', Good K g B O F' ρ σ H' → Ext F H F' H' → WalkOk K g B J ds F' → R J H'
def VI (X : Cx) (g : Cfg) (W : WX) (B : Base) (O : List SK) (tg e : Expr) (it : List Dt → R (List Dt)) : Prop := PI X tg e (tI X.K g W B O it)
def items : Dt → R (List Dt)
  | .lst l => rok l
  | .tup l => rok l
  | _ => none
def iOf (f : List Dt → R Dt) : List Dt → R (List Dt) := fun ρ => rbind (f ρ) items
theorem walk_list {K : PySem.W.Frag} {F : Hp} {a : Addr} {vs : List V} {l : List Dt} (h : F a = some (.lst vs)) (r : Reps K g F l vs) : WalkOk K g B (Itl K a) l F := fun O i ρ σ H F1 G s => by
  have h1 : H a = some (.lst vs) := G.sub _ _ (s _ _ h)
  cases q : l[i]? with
  | none =>
    have : l.length ≤ i := List.getElem?_eq_none_iff.mp q
    exact ⟨vs, SqL.of h1, by rw [← reps_len r]; exact this⟩
  | some d =>
    obtain ⟨v, e1, e2⟩ := reps_get r q
    refine ⟨⟨vs, v, SqL.of h1, e1⟩, fun x H' y => ?_⟩
    obtain ⟨rfl, y⟩ := y
    have := y vs (SqL.of h1)
    rw [e1] at this; cases this
    exact ⟨F1, G, Ext.refl _ _, rep_mono s _ _ e2⟩
theorem walk_tup {K : PySem.W.Frag} {F : Hp} {a : Addr} {vs : List V} {l : List Dt} (h : SqT K F a vs) (r : Reps K g F l vs) : WalkOk K g B (Itt K a) l F := fun O i ρ σ H F1 G s => by
  have h1 : SqT K H a vs := sqT_mono G.sub (sqT_mono s h)
  cases q : l[i]? with
  | none =>
    have : l.length ≤ i := List.getElem?_eq_none_iff.mp q
    exact ⟨vs, h1, by rw [← reps_len r]; exact this⟩
  | some d =>
    obtain ⟨v, e1, e2⟩ := reps_get r q
    refine ⟨⟨vs, v, h1, e1⟩, fun x H' y => ?_⟩
    obtain ⟨rfl, y⟩ := y
    have := y vs h1
    rw [e1] at this; cases this
    exact ⟨F1, G, Ext.refl _ _, rep_mono s _ _ e2⟩
theorem vi_list {tg : Expr} (h : VE X g W B O .fz e f) : VI X g W B O tg e (iOf fun ρ => rbind (f ρ) fun d => match d with | .lst l => rok (.lst l) | _ => none) := pi_imp (pi_list h) fun σ H R ⟨F, ρ, G, P⟩ => by
  unfold iOf at P
  simp only [rbind_assoc] at P
  refine tE_then G P fun d v F1 H1 e1 G1 x1 r1 P1 => ?_
  cases d with
  | lst l =>
    have r1 : Rep X.K g F1 (.lst l) v := r1
    rw [Rep] at r1
    obtain ⟨a, vs, rfl, h2, h3⟩ := r1
    exact ⟨a, rfl, ⟨vs, SqL.of (G1.sub _ _ h2)⟩, P1 _ F1 H1 G1 x1 (walk_list h2 h3)⟩
  | _ => exact P1.elim
theorem vi_tup {tg : Expr} (h : VE X g W B O .fz e f) : VI X g W B O tg e (iOf fun ρ => rbind (f ρ) fun d => match d with | .tup l => rok (.tup l) | _ => none) := pi_imp (pi_tup h) fun σ H R ⟨F, ρ, G, P⟩ => by
  unfold iOf at P
  simp only [rbind_assoc] at P
  refine tE_then G P fun d v F1 H1 e1 G1 x1 r1 P1 => ?_
  cases d with
  | tup l =>
    have r1 : Rep X.K g F1 (.tup l) v := r1
    rw [Rep] at r1
    obtain ⟨a, vs, rfl, h2, h3⟩ := r1
    exact ⟨a, rfl, ⟨vs, sqT_mono G1.sub h2⟩, P1 _ F1 H1 G1 x1 (walk_tup h2 h3)⟩
  | _ => exact P1.elim
def signs (z : Str) : List Dt := z.cps.toList.map fun c => .str ⟨#[c]⟩
def itS : Dt → R (List Dt)
  | .str z => rok (signs z)
  | _ => none
def iStrD (f : List Dt → R Dt) : List Dt → R (List Dt) := fun ρ => rbind (f ρ) itS
theorem walk_str {K : PySem.W.Frag} {F : Hp} (z : Str) : WalkOk K g B (Its z) (signs z) F := fun O i ρ σ H F1 G s => by
  unfold signs
  rw [List.getElem?_map]
  by_cases hi : i < z.cps.size
  · have e : z.cps.toList[i]? = some z.cps[i] := by simp [hi]
    rw [e]
    refine ⟨hi, fun x H' y => ?_⟩
    obtain ⟨rfl, c, h1, rfl⟩ := y
    have : z.cps[i]? = some z.cps[i] := by simp [hi]
    rw [this] at h1
    cases h1
    exact ⟨F1, G, Ext.refl _ _, rep_str⟩
  · have e : z.cps.toList[i]? = none := by simp; omega
    rw [e]
    show z.cps.size ≤ i
    omega
theorem vi_str {tg : Expr} (h : VE X g W B O .ct e f) : VI X g W B O tg e (iStrD f) := pi_imp (pi_str h) fun σ H R ⟨F, ρ, G, P⟩ => by
  refine tE_then G P fun d v F1 H1 e1 G1 x1 r1 P1 => ?_
  cases d with
  | str z => exact ⟨z, ct_str r1, P1 _ F1 H1 G1 x1 (walk_str z)⟩
  | _ => exact P1.elim
def rng (lo : Int) (n : Nat) : List Dt := (List.range n).map fun i => .int (lo + (i : Nat))
theorem walk_rng {K : PySem.W.Frag} {F : Hp} (lo : Int) (n : Nat) : WalkOk K g B (Itr lo n) (rng lo n) F := fun O i ρ σ H F1 G s => by
  unfold rng
  rw [List.getElem?_map]
  by_cases hi : i < n
  · rw [List.getElem?_range hi]
    refine ⟨hi, fun x H' y => ?_⟩
    obtain ⟨rfl, rfl⟩ := y
    exact ⟨F1, G, Ext.refl _ _, rep_int⟩
  · rw [List.getElem?_eq_none (by simpa using hi)]
    show n ≤ i
    omega
def inR (i : Int) : Bool := decide (-(2 ^ 62) ≤ i ∧ i < 2 ^ 62)
def rng1 : List Dt → R (List Dt)
  | [.int j] => if inR j = true then rok (rng 0 j.toNat) else none
  | _ => none
def rng2 : List Dt → R (List Dt)
  | [.int i, .int j] => if (inR i && inR j) = true then rok (rng i (j - i).toNat) else none
  | _ => none
def iRng (fs : List Dt → R (List Dt)) (h : List Dt → R (List Dt)) : List Dt → R (List Dt) := fun ρ => rbind (fs ρ) h
theorem vi_range1 {tg : Expr} {p0 : Pos} (hm : X.mg "range" = none) (h : VA X g W B O .ct [a] fs) (hg : Gl X "range" := by rfl) (hs : starEach [a] X.env = [(false, eval a X.env)] := by rfl) : VI X g W B O tg (.Call (.Name "range" p0) [a] [] pos) (iRng fs rng1) := pi_imp (pi_range1 hg hm h hs) fun σ H R ⟨F, ρ, G, P⟩ =>
  ⟨F, ρ, G, PostX.mono (PostX.bind P) (fun _ z => z) fun ds _ P1 vs F1 H1 G1 x1 r1 => by
    match ds, P1, r1 with
    | [.int j], P1, r1 =>
      obtain ⟨v1, r2, rfl, h1, h2⟩ := (r1 : RepsC X.K g F1 H1 [.int j] vs)
      have h2 : r2 = [] := h2
      subst h2
      have e1 := repC_int h1
      subst e1
      by_cases c : inR j = true
      · have q : rng1 [.int j] = rok (rng 0 j.toNat) := if_pos c
        rw [q] at P1
        have c' := of_decide_eq_true c
        exact ⟨j, rfl, c'.1, c'.2, P1 _ F1 H1 G1 x1 (walk_rng 0 _)⟩
      · have q : rng1 [.int j] = none := if_neg c
        rw [q] at P1; exact P1.elim
    | [], P1, _ => exact P1.elim
    | .non :: _, P1, _ => exact P1.elim
    | .bl _ :: _, P1, _ => exact P1.elim
    | .str _ :: _, P1, _ => exact P1.elim
    | .lst _ :: _, P1, _ => exact P1.elim
    | .tup _ :: _, P1, _ => exact P1.elim
    | .obj _ _ :: _, P1, _ => exact P1.elim
    | .scr _ :: _, P1, _ => exact P1.elim
    | .exc _ :: _, P1, _ => exact P1.elim
    | .dct _ _ :: _, P1, _ => exact P1.elim
    | .int _ :: _ :: _, P1, _ => exact P1.elim⟩
theorem rng2_cases {ds : List Dt} {er : Nat → Prop} {ok : List Dt → Prop} (P : PostX er (rng2 ds) ok) : ∃ i j, ds = [.int i, .int j] ∧ inR i = true ∧ inR j = true ∧ ok (rng i (j - i).toNat) := by
  unfold rng2 at P
  split at P
  · rename_i i j
    by_cases c : (inR i && inR j) = true
    · rw [if_pos c] at P
      obtain ⟨c1, c2⟩ := Bool.and_eq_true_iff.mp c
      exact ⟨i, j, rfl, c1, c2, P⟩
    · rw [if_neg c] at P; exact P.elim
  · exact P.elim
theorem vi_range2 {tg : Expr} {p0 : Pos} (hm : X.mg "range" = none) (h : VA X g W B O .ct [a, b] fs) (hg : Gl X "range" := by rfl) (hs : starEach [a, b] X.env = [(false, eval a X.env), (false, eval b X.env)] := by rfl) (hs2 : starEach [b] X.env = [(false, eval b X.env)] := by rfl) :
    VI X g W B O tg (.Call (.Name "range" p0) [a, b] [] pos) (iRng fs rng2) := pi_imp (pi_range2 hg hm h hs hs2) fun σ H R ⟨F, ρ, G, P⟩ =>
  ⟨F, ρ, G, PostX.mono (PostX.bind P) (fun _ z => z) fun ds _ P1 vs F1 H1 G1 x1 r1 => by
    obtain ⟨i, j, rfl, c1, c2, P2⟩ := rng2_cases P1
    obtain ⟨v1, r2, rfl, h1, v2, r3, rfl, h2, h3⟩ := (r1 : RepsC X.K g F1 H1 [.int i, .int j] vs)
    have h3 : r3 = [] := h3
    subst h3
    have e1 := repC_int h1
    have e2 := repC_int h2
    subst e1 e2
    have c1' := of_decide_eq_true c1
    have c2' := of_decide_eq_true c2
    exact ⟨i, j, rfl, ⟨c1'.1, c1'.2, c2'.1, c2'.2⟩, P2 _ F1 H1 G1 x1 (walk_rng i _)⟩⟩
/-! for -/
def dForL (set : Dt → List Dt → Option (List Dt)) (s : List Dt → R Fl) : List Dt → List Dt → R Fl
  | [], ρ => rok (.nx ρ)
  | d :: ds, ρ => rbind ((set d ρ).map Except.ok) fun ρ1 => rbind (s ρ1) fun fl => match fl with
    | .nx ρ2 => dForL set s ds ρ2
    | .rt d => rok (.rt d)
def dFor (it : List Dt → R (List Dt)) (set : Dt → List Dt → Option (List Dt)) (s : List Dt → R Fl) : List Dt → R Fl := fun ρ => rbind (it ρ) fun ds => dForL set s ds ρ
theorem vs_for {tg : Expr} {is : List Nat} {body : List Stmt} {it : List Dt → R (List Dt)} {set : Dt → List Dt → Option (List Dt)} (hp : PassesOwn (model X.prog X.w) X.A X.env X.xe) (hc : X.calm = true) (hi : VI X g W B O tg e it) (hg : VG X g B O O1 is tg set) (hb : VSs X g W B rk O1 O body s)
    (hs : ∀ x, foldedSetIterable e X.env x = pure x := by intro _; rfl) : VS X g W B rk O O (.For tg e body [] pos) (dFor it set s) := ps_imp (ps_for hp hc hi hg hb hs) fun D σ H ⟨F, ρ, G, P⟩ => by
  refine ⟨F, ρ, G, PostX.mono (PostX.bind P) (fun _ z => erW z) fun ds _ P1 J F1 H1 G1 x1 wk1 => ?_⟩
  have P1' : PostS X.K g W B rk O F1 (dForL set s ds ρ) D := PostS.at x1.f P1
  refine ⟨fun i m σ H => m = ds.length - i ∧ ∃ F2 ρ, Good X.K g B O F2 ρ σ H ∧ Same F1 F2 ∧ PostS X.K g W B rk O F2 (dForL set s (ds.drop i) ρ) D, ⟨_, rfl, F1, ρ, G1, fun _ _ z => z, P1'⟩, ?_⟩
  rintro i m σ H ⟨rfl, F2, ρ, G2, s2, P2⟩
  have w := wk1 O i ρ σ H F2 G2 s2
  cases q : ds[i]? with
  | none =>
    rw [q] at w
    have hl : ds.length ≤ i := List.getElem?_eq_none_iff.mp q
    rw [List.drop_eq_nil_of_le hl] at P2
    exact .inl ⟨w, P2 F2 σ H G2 (fun _ _ z => z)⟩
  | some d =>
    rw [q] at w
    obtain ⟨w1, w2⟩ := w
    have hl : i < ds.length := (List.getElem?_eq_some_iff.mp q).1
    have hd : ds.drop i = d :: ds.drop (i + 1) := by
      rw [List.drop_eq_getElem_cons hl]
      rw [List.getElem?_eq_getElem hl] at q
      cases q; rfl
    rw [hd] at P2
    refine .inr ⟨w1, fun σ' H' => ∃ F3 ρ, Good X.K g B O F3 ρ σ' H' ∧ Same F1 F3 ∧ PostS X.K g W B rk O F3 (dForL set s (ds.drop (i + 1)) ρ) D, fun σ' H' h => ⟨_, by omega, rfl, h⟩, fun x H' y => ?_⟩
    obtain ⟨F3, G3, x3, r3⟩ := w2 x H' y
    have P3 : PostX (ErW g W B) ((set d ρ).map Except.ok) _ := PostX.bind (PostS.at x3.f P2)
    cases e : set d ρ with
    | none => rw [e] at P3; exact P3.elim
    | some ρ1 =>
      rw [e] at P3
      refine ⟨F3, ρ, d, G3, r3, ρ1, e, fun σ' G4 _ => ?_⟩
      refine ⟨F3, ρ1, G4, PostX.mono (PostX.bind P3) (fun _ z => z) fun fl _ q => ?_⟩
      cases fl with
      | nx ρ2 => exact fun F5 σ5 H5 G5 s5 => ⟨F5, ρ2, G5, s2.trans (x3.f.trans s5), PostS.at s5 q⟩
      | rt d => exact q
end
end VL

set_option Elab.async false
set_option linter.all false
set_option maxRecDepth 100000
set_option maxHeartbeats 4000000
namespace VL
open PySem PySem.Spec PyProof.Rows L2
section
variable {X : Cx} {g : Cfg} {W : WX} {B : Base} {O O1 O2 O' : List SK} {pos p0 apos : Pos} {kd : Kd} {rk : RK} {a b c e : Expr} {es : List Expr} {f f1 f2 f3 : List Dt → R Dt} {fs : List Dt → R (List Dt)} {p p1 p2 : List Dt → R Bool} {s s1 s2 : List Dt → R Fl} {st : Stmt} {rest : List Stmt}

/-! ### built-in functions -/
def CallOk (K : PySem.W.Frag) (g : Cfg) (W : WX) (B : Base) (O : List SK) (kd : Kd) (r : List V → Hp → VK → Prop) (h : List Dt → R Dt) : Prop := ∀ F ρ σ H ds vs Q, Good K g B O F ρ σ H → RepsC K g F H ds vs → Post K g W B O kd (h ds) F ρ σ H Q → r vs H Q
def dCall (h : List Dt → R Dt) (fs : List Dt → R (List Dt)) : List Dt → R Dt := fun ρ => rbind (fs ρ) h
theorem call_core {r : List V → Hp → VK → Prop} {h : List Dt → R Dt} (ok : CallOk X.K g W B O kd r h) (σ : St) (H : Hp) (Q : VK) (P : tE X.K g W B O kd (dCall h fs) σ H Q) : tCB r (tA X.K g W B O .ct fs) σ H Q := by
  obtain ⟨F, ρ, G, P⟩ := P
  exact ⟨F, ρ, G, PostX.mono (PostX.bind P) (fun _ z => z) fun ds _ P1 vs F1 H1 G1 x1 r1 => ok F1 ρ σ H1 ds vs Q G1 r1 (post_at x1 P1)⟩
theorem v_callB {x : Str} {id : String} {r : List V → Hp → VK → Prop} {h : List Dt → R Dt} (hc : CallR X (.builtin id) r) (ok : CallOk X.K g W B O kd r h) (hm : X.mg x = none) (ha : VA X g W B O .ct (e :: es) fs) (hv : bootBuiltins x = some (.builtin id) := by decide +kernel) (hg : Gl X x := by rfl) (hn : x ≠ "__name__" := by decide) (hdb : (x == ("__debug__" : Str)) = false := by decide)
    (he : starEach (e :: es) X.env = (false, eval e X.env) :: starEach es X.env := by rfl) (hpl : (backTo pos (starEach es X.env)).any (·.1) = false := by rfl) : VE X g W B O kd (.Call (.Name x p0) (e :: es) [] pos) (dCall h fs) := pe_imp (pe_callB hc hg hm hv ha hn hdb he hpl) fun σ H Q P => call_core ok σ H Q P
theorem v_callT {x : Str} {T : String} {r : List V → Hp → VK → Prop} {h : List Dt → R Dt} (hc : CallR X (.type T) r) (ok : CallOk X.K g W B O kd r h) (hm : X.mg x = none) (ha : VA X g W B O .ct (e :: es) fs) (hv : bootBuiltins x = some (.type T) := by decide +kernel) (hg : Gl X x := by rfl) (hn : x ≠ "__name__" := by decide) (hdb : (x == ("__debug__" : Str)) = false := by decide)
    (he : starEach (e :: es) X.env = (false, eval e X.env) :: starEach es X.env := by rfl) (hpl : (backTo pos (starEach es X.env)).any (·.1) = false := by rfl) : VE X g W B O kd (.Call (.Name x p0) (e :: es) [] pos) (dCall h fs) := pe_imp (pe_callTy hc hg hm hv ha hn hdb he hpl) fun σ H Q P => call_core ok σ H Q P
theorem post_one {α : Type} {er : Nat → Prop} {h : Dt → R α} {ds : List Dt} {ok : α → Prop} (P : PostX er (match ds with | [d] => h d | _ => none) ok) : ∃ d, ds = [d] ∧ PostX er (h d) ok := by
  match ds, P with
  | [d], P => exact ⟨d, rfl, P⟩
  | [], P => exact P.elim
  | _ :: _ :: _, P => exact P.elim
theorem post_two {α : Type} {er : Nat → Prop} {h : Dt → Dt → R α} {ds : List Dt} {ok : α → Prop} (P : PostX er (match ds with | [d, d'] => h d d' | _ => none) ok) : ∃ d d', ds = [d, d'] ∧ PostX er (h d d') ok := by
  match ds, P with
  | [d, d'], P => exact ⟨d, d', rfl, P⟩
  | [], P => exact P.elim
  | [_], P => exact P.elim
  | _ :: _ :: _ :: _, P => exact P.elim
theorem repsC_one {K : PySem.W.Frag} {F H : Hp} {d : Dt} {vs : List V} (h : RepsC K g F H [d] vs) : ∃ v, vs = [v] ∧ RepC K g F H d v := by
  obtain ⟨v, r, rfl, h1, h2⟩ := h
  have h2 : r = [] := h2
  exact ⟨v, by rw [h2], h1⟩
theorem repsC_two {K : PySem.W.Frag} {F H : Hp} {d d' : Dt} {vs : List V} (h : RepsC K g F H [d, d'] vs) : ∃ v v', vs = [v, v'] ∧ RepC K g F H d v ∧ RepC K g F H d' v' := by
  obtain ⟨v, r, rfl, h1, v', r', rfl, h2, h3⟩ := h
  have h3 : r' = [] := h3
  exact ⟨v, v', by rw [h3], h1, h2⟩
def one (h : Dt → R Dt) : List Dt → R Dt := fun ds => match ds with | [d] => h d | _ => none
def two (h : Dt → Dt → R Dt) : List Dt → R Dt := fun ds => match ds with | [d, d'] => h d d' | _ => none
theorem one_ok {r : List V → Hp → VK → Prop} {h : Dt → R Dt} (ok : ∀ F ρ σ H d v Q, Good X.K g B O F ρ σ H → RepC X.K g F H d v → Post X.K g W B O kd (h d) F ρ σ H Q → r [v] H Q) : CallOk X.K g W B O kd r (one h) := fun F ρ σ H ds vs Q G r1 P => by
  obtain ⟨d, rfl, P1⟩ := post_one P
  obtain ⟨v, rfl, r2⟩ := repsC_one r1
  exact ok F ρ σ H d v Q G r2 P1
theorem two_ok {r : List V → Hp → VK → Prop} {h : Dt → Dt → R Dt} (ok : ∀ F ρ σ H d d' v v' Q, Good X.K g B O F ρ σ H → RepC X.K g F H d v → RepC X.K g F H d' v' → Post X.K g W B O kd (h d d') F ρ σ H Q → r [v, v'] H Q) : CallOk X.K g W B O kd r (two h) := fun F ρ σ H ds vs Q G r1 P => by
  obtain ⟨d, d', rfl, P1⟩ := post_two P
  obtain ⟨v, v', rfl, r2, r3⟩ := repsC_two r1
  exact ok F ρ σ H d d' v v' Q G r2 r3 P1
theorem scr_of {K : PySem.W.Frag} {F H : Hp} {l : List Int} {v : V} (s : Same F H) (h : RepC K g F H (.scr l) v) : ∃ p, v = .ref p ∧ SqL K H p (l.map V.int) := by
  have h : Rep K g F (.scr l) v := h
  rw [Rep] at h
  obtain ⟨p, rfl, h2⟩ := h
  exact ⟨p, rfl, sqL_mono s h2⟩
theorem tup_of {K : PySem.W.Frag} {F H : Hp} {l : List Dt} {v : V} (s : Same F H) (h : RepC K g F H (.tup l) v) : ∃ p vs, v = .ref p ∧ SqT K H p vs ∧ Reps K g F l vs := by
  have h : Rep K g F (.tup l) v := h
  rw [Rep] at h
  obtain ⟨p, vs, rfl, h2, h3⟩ := h
  exact ⟨p, vs, rfl, sqT_mono s h2, h3⟩
/-! len -/
def bLen : Dt → R Dt
  | .lst l => rok (.int l.length)
  | .tup l => rok (.int l.length)
  | .scr l => rok (.int l.length)
  | .str z => if z.length ≤ 16777216 then rok (.int z.length) else none
  | _ => none
theorem ok_len : CallOk X.K g W B O .fz (fun xs H Q => ∃ x n, xs = [x] ∧ LenV X.K x H n ∧ Q (.int n) H) (one bLen) := one_ok fun F ρ σ H d v Q G r P => by
  cases d with
  | lst l =>
    obtain ⟨q, vs, rfl, h1, h2⟩ := r
    exact ⟨_, l.length, rfl, .inl ⟨vs, SqL.of h1, reps_len h2⟩, post_ok G P ok_int⟩
  | tup l =>
    obtain ⟨q, vs, rfl, h1, h2⟩ := tup_of G.sub r
    exact ⟨_, l.length, rfl, .inr ⟨vs, h1, reps_len h2⟩, post_ok G P ok_int⟩
  | scr l =>
    obtain ⟨q, rfl, h1⟩ := scr_of G.sub r
    exact ⟨_, l.length, rfl, .inl ⟨_, h1, by simp⟩, post_ok G P ok_int⟩
  | str z =>
    by_cases c : z.length ≤ 16777216
    · have q : bLen (.str z) = rok (.int z.length) := if_pos c
      rw [q] at P
      rw [repC_str r]
      exact ⟨_, z.length, rfl, ⟨by rw [sizeLine_eq]; exact c, rfl⟩, post_ok G P ok_int⟩
    · have q : bLen (.str z) = none := if_neg c
      rw [q] at P; exact P.elim
  | _ => exact P.elim
theorem v_len (hm : X.mg "len" = none) (ha : VA X g W B O .ct [a] fs) (hg : Gl X "len" := by rfl) (he : starEach [a] X.env = (false, eval a X.env) :: starEach [] X.env := by rfl) (hpl : (backTo pos (starEach [] X.env)).any (·.1) = false := by rfl) : VE X g W B O .fz (.Call (.Name "len" p0) [a] [] pos) (dCall (one bLen) fs) := v_callB call_len ok_len hm ha (hg := hg) (he := he) (hpl := hpl)
/-! abs, max, min of two, int, str -/
def bAbs : Dt → R Dt
  | .int i => rok (.int (if i < 0 then -i else i))
  | _ => none
theorem v_abs (hm : X.mg "abs" = none) (ha : VA X g W B O .ct [a] fs) (hg : Gl X "abs" := by rfl) (he : starEach [a] X.env = (false, eval a X.env) :: starEach [] X.env := by rfl) (hpl : (backTo pos (starEach [] X.env)).any (·.1) = false := by rfl) : VE X g W B O .fz (.Call (.Name "abs" p0) [a] [] pos) (dCall (one bAbs) fs) := v_callB call_abs (one_ok fun F ρ σ H d v Q G r P => by
  cases d <;> first | exact False.elim P | exact ⟨_, by rw [repC_int r], post_ok G P ok_int⟩) hm ha (hg := hg) (he := he) (hpl := hpl)
def bMax2 : Dt → Dt → R Dt
  | .int i, .int j => rok (.int (if j > i then j else i))
  | _, _ => none
def bMin2 : Dt → Dt → R Dt
  | .int i, .int j => rok (.int (if j < i then j else i))
  | _, _ => none
theorem v_max2 (hc : X.calm = true) (hm : X.mg "max" = none) (ha : VA X g W B O .ct [a, b] fs) (hg : Gl X "max" := by rfl) (he : starEach [a, b] X.env = (false, eval a X.env) :: starEach [b] X.env := by rfl) (hpl : (backTo pos (starEach [b] X.env)).any (·.1) = false := by rfl) : VE X g W B O .fz (.Call (.Name "max" p0) [a, b] [] pos) (dCall (two bMax2) fs) := v_callB (call_max2 hc) (two_ok fun F ρ σ H d d' v v' Q G r r' P => by
  cases d <;> cases d' <;> first | exact False.elim P | exact ⟨_, _, by rw [repC_int r, repC_int r'], post_ok G P ok_int⟩) hm ha (hg := hg) (he := he) (hpl := hpl)
theorem v_min2 (hc : X.calm = true) (hm : X.mg "min" = none) (ha : VA X g W B O .ct [a, b] fs) (hg : Gl X "min" := by rfl) (he : starEach [a, b] X.env = (false, eval a X.env) :: starEach [b] X.env := by rfl) (hpl : (backTo pos (starEach [b] X.env)).any (·.1) = false := by rfl) : VE X g W B O .fz (.Call (.Name "min" p0) [a, b] [] pos) (dCall (two bMin2) fs) := v_callB (call_min2 hc) (two_ok fun F ρ σ H d d' v v' Q G r r' P => by
  cases d <;> cases d' <;> first | exact False.elim P | exact ⟨_, _, by rw [repC_int r, repC_int r'], post_ok G P ok_int⟩) hm ha (hg := hg) (he := he) (hpl := hpl)
def bInt : Dt → R Dt
  | .int i => rok (.int i)
  | .bl k => rok (.int (if k then 1 else 0))
  | _ => none
theorem v_intc (hm : X.mg "int" = none) (ha : VA X g W B O .ct [a] fs) (hg : Gl X "int" := by rfl) (he : starEach [a] X.env = (false, eval a X.env) :: starEach [] X.env := by rfl) (hpl : (backTo pos (starEach [] X.env)).any (·.1) = false := by rfl) : VE X g W B O .fz (.Call (.Name "int" p0) [a] [] pos) (dCall (one bInt) fs) := v_callT call_int1 (one_ok fun F ρ σ H d v Q G r P => by
  cases d <;> first | exact False.elim P | exact .inl ⟨_, by rw [repC_int r], post_ok G P ok_int⟩ | exact .inr ⟨_, by rw [repC_bl r], post_ok G P ok_int⟩) hm ha (hg := hg) (he := he) (hpl := hpl)
def bStr : Dt → R Dt
  | .int i => if i.natAbs.log2 < 1920 then rok (.str (toString i)) else none
  | _ => none
theorem v_strc (hm : X.mg "str" = none) (ha : VA X g W B O .ct [a] fs) (hg : Gl X "str" := by rfl) (he : starEach [a] X.env = (false, eval a X.env) :: starEach [] X.env := by rfl) (hpl : (backTo pos (starEach [] X.env)).any (·.1) = false := by rfl) : VE X g W B O .fz (.Call (.Name "str" p0) [a] [] pos) (dCall (one bStr) fs) := v_callT call_str_int (one_ok fun F ρ σ H d v Q G r P => by
  cases d <;> first | exact False.elim P | skip
  rename_i i
  by_cases c : i.natAbs.log2 < 1920
  · have q : bStr (.int i) = rok (.str (toString i)) := if_pos c
    rw [q] at P
    exact ⟨_, by rw [repC_int r], c, post_ok G P ok_str⟩
  · have q : bStr (.int i) = none := if_neg c
    rw [q] at P; exact P.elim) hm ha (hg := hg) (he := he) (hpl := hpl)
/-! sum, max, min, all, any of a list -/
def toInts : List Dt → Option (List Int)
  | [] => some []
  | .int i :: ds => (toInts ds).map (i :: ·)
  | _ => none
def toBools : List Dt → Option (List Bool)
  | [] => some []
  | .bl i :: ds => (toBools ds).map (i :: ·)
  | _ => none
theorem toInts_eq : ∀ {l : List Dt} {ns : List Int}, toInts l = some ns → l = ns.map Dt.int
  | [], ns, h => by cases h; rfl
  | d :: ds, ns, h => by
    cases d <;> first | cases h | skip
    rename_i i
    have h : (toInts ds).map (i :: ·) = some ns := h
    cases q : toInts ds with
    | none => rw [q] at h; cases h
    | some m => rw [q] at h; cases h; rw [List.map_cons, ← toInts_eq q]
theorem toBools_eq : ∀ {l : List Dt} {ns : List Bool}, toBools l = some ns → l = ns.map Dt.bl
  | [], ns, h => by cases h; rfl
  | d :: ds, ns, h => by
    cases d <;> first | cases h | skip
    rename_i i
    have h : (toBools ds).map (i :: ·) = some ns := h
    cases q : toBools ds with
    | none => rw [q] at h; cases h
    | some m => rw [q] at h; cases h; rw [List.map_cons, ← toBools_eq q]
@[simp] theorem toInts_map (ns : List Int) : toInts (ns.map Dt.int) = some ns := by
  induction ns with
  | nil => rfl
  | cons n ns ih => show (toInts (ns.map Dt.int)).map (n :: ·) = _; rw [ih]; rfl
@[simp] theorem toBools_map (ns : List Bool) : toBools (ns.map Dt.bl) = some ns := by
  induction ns with
  | nil => rfl
  | cons n ns ih => show (toBools (ns.map Dt.bl)).map (n :: ·) = _; rw [ih]; rfl
theorem reps_ints {K : PySem.W.Frag} {H : Hp} : ∀ {ns : List Int} {vs : List V}, Reps K g H (ns.map Dt.int) vs → vs = ns.map V.int
  | [], vs, h => by rw [List.map_nil, Reps] at h; exact h
  | n :: ns, vs, h => by
    rw [List.map_cons, Reps] at h
    obtain ⟨v, r, rfl, h1, h2⟩ := h
    rw [Rep] at h1
    rw [h1, reps_ints h2]; rfl
theorem reps_bools {K : PySem.W.Frag} {H : Hp} : ∀ {ns : List Bool} {vs : List V}, Reps K g H (ns.map Dt.bl) vs → vs = ns.map V.bl
  | [], vs, h => by rw [List.map_nil, Reps] at h; exact h
  | n :: ns, vs, h => by
    rw [List.map_cons, Reps] at h
    obtain ⟨v, r, rfl, h1, h2⟩ := h
    rw [Rep] at h1
    rw [h1, reps_bools h2]; rfl
def onInts (k : List Int → R Dt) : Dt → R Dt
  | .lst l => match toInts l with | some ns => k ns | none => none
  | _ => none
def onBools (k : List Bool → R Dt) : Dt → R Dt
  | .lst l => match toBools l with | some ns => k ns | none => none
  | _ => none
theorem onInts_ok {K : PySem.W.Frag} {k : List Int → R Dt} {F H : Hp} {d : Dt} {v : V} {er : Nat → Prop} {ok : Dt → Prop} (r : RepC K g F H d v) (P : PostX er (onInts k d) ok) : ∃ q ns, v = .ref q ∧ d = .lst (ns.map Dt.int) ∧ SqL K H q (ns.map V.int) ∧ PostX er (k ns) ok := by
  cases d with
  | lst l =>
    obtain ⟨q, vs, rfl, h1, h2⟩ := r
    cases e : toInts l with
    | none =>
      have : onInts k (.lst l) = none := by show (match toInts l with | some ns => k ns | none => none) = none; rw [e]
      rw [this] at P; exact P.elim
    | some ns =>
      have : onInts k (.lst l) = k ns := by show (match toInts l with | some ns => k ns | none => none) = k ns; rw [e]
      rw [this] at P
      have e' := toInts_eq e
      subst e'
      exact ⟨q, ns, rfl, rfl, by rw [← reps_ints h2]; exact SqL.of h1, P⟩
  | _ => exact P.elim
theorem onBools_ok {K : PySem.W.Frag} {k : List Bool → R Dt} {F H : Hp} {d : Dt} {v : V} {er : Nat → Prop} {ok : Dt → Prop} (r : RepC K g F H d v) (P : PostX er (onBools k d) ok) : ∃ q ns, v = .ref q ∧ d = .lst (ns.map Dt.bl) ∧ SqL K H q (ns.map V.bl) ∧ PostX er (k ns) ok := by
  cases d with
  | lst l =>
    obtain ⟨q, vs, rfl, h1, h2⟩ := r
    cases e : toBools l with
    | none =>
      have : onBools k (.lst l) = none := by show (match toBools l with | some ns => k ns | none => none) = none; rw [e]
      rw [this] at P; exact P.elim
    | some ns =>
      have : onBools k (.lst l) = k ns := by show (match toBools l with | some ns => k ns | none => none) = k ns; rw [e]
      rw [this] at P
      have e' := toBools_eq e
      subst e'
      exact ⟨q, ns, rfl, rfl, by rw [← reps_bools h2]; exact SqL.of h1, P⟩
  | _ => exact P.elim
def maxI : List Int → Int
  | [] => 0
  | x :: xs => xs.foldl (fun a y => if a < y then y else a) x
def minI : List Int → Int
  | [] => 0
  | x :: xs => xs.foldl (fun a y => if y < a then y else a) x
theorem foldMax : ∀ (xs : List Int) (x : Int), (xs.foldl (fun a y => if a < y then y else a) x ∈ x :: xs) ∧ ∀ y ∈ x :: xs, y ≤ xs.foldl (fun a y => if a < y then y else a) x
  | [], x => by simp
  | z :: xs, x => by
    rw [List.foldl_cons]
    obtain ⟨h1, h2⟩ := foldMax xs (if x < z then z else x)
    constructor
    · rcases List.mem_cons.mp h1 with q | q
      · rw [q]; split <;> simp
      · exact List.mem_cons_of_mem _ (List.mem_cons_of_mem _ q)
    · intro y hy
      have h3 := h2 (if x < z then z else x) List.mem_cons_self
      rcases List.mem_cons.mp hy with rfl | hy
      · split at h3 <;> (split <;> omega)
      · rcases List.mem_cons.mp hy with rfl | hy
        · split at h3 <;> (split <;> omega)
        · exact h2 y (List.mem_cons_of_mem _ hy)
theorem foldMin : ∀ (xs : List Int) (x : Int), (xs.foldl (fun a y => if y < a then y else a) x ∈ x :: xs) ∧ ∀ y ∈ x :: xs, xs.foldl (fun a y => if y < a then y else a) x ≤ y
  | [], x => by simp
  | z :: xs, x => by
    rw [List.foldl_cons]
    obtain ⟨h1, h2⟩ := foldMin xs (if z < x then z else x)
    constructor
    · rcases List.mem_cons.mp h1 with q | q
      · rw [q]; split <;> simp
      · exact List.mem_cons_of_mem _ (List.mem_cons_of_mem _ q)
    · intro y hy
      have h3 := h2 (if z < x then z else x) List.mem_cons_self
      rcases List.mem_cons.mp hy with rfl | hy
      · split at h3 <;> (split <;> omega)
      · rcases List.mem_cons.mp hy with rfl | hy
        · split at h3 <;> (split <;> omega)
        · exact h2 y (List.mem_cons_of_mem _ hy)
theorem maxI_mem {ns : List Int} (h : ns ≠ []) : maxI ns ∈ ns := by cases ns with | nil => exact absurd rfl h | cons x xs => exact (foldMax xs x).1
theorem maxI_le {ns : List Int} {y : Int} (h : y ∈ ns) : y ≤ maxI ns := by cases ns with | nil => simp at h | cons x xs => exact (foldMax xs x).2 y h
theorem minI_mem {ns : List Int} (h : ns ≠ []) : minI ns ∈ ns := by cases ns with | nil => exact absurd rfl h | cons x xs => exact (foldMin xs x).1
theorem minI_le {ns : List Int} {y : Int} (h : y ∈ ns) : minI ns ≤ y := by cases ns with | nil => simp at h | cons x xs => exact (foldMin xs x).2 y h
theorem maxI_eq {ns : List Int} {m : Int} (h1 : m ∈ ns) (h2 : ∀ y ∈ ns, y ≤ m) : m = maxI ns := Int.le_antisymm (maxI_le h1) (h2 _ (maxI_mem (by intro e; rw [e] at h1; simp at h1)))
theorem minI_eq {ns : List Int} {m : Int} (h1 : m ∈ ns) (h2 : ∀ y ∈ ns, m ≤ y) : m = minI ns := Int.le_antisymm (h2 _ (minI_mem (by intro e; rw [e] at h1; simp at h1))) (minI_le h1)
def bSum : Dt → R Dt := onInts fun ns => rok (.int ns.sum)
def bMaxL : Dt → R Dt := onInts fun ns => if ns.isEmpty = true then none else rok (.int (maxI ns))
def bMinL : Dt → R Dt := onInts fun ns => if ns.isEmpty = true then none else rok (.int (minI ns))
def bAll : Dt → R Dt := onBools fun ns => rok (.bl (ns.all id))
def bAny : Dt → R Dt := onBools fun ns => rok (.bl (ns.any id))
theorem v_sum (hc : X.calm = true) (hm : X.mg "sum" = none) (ha : VA X g W B O .ct [a] fs) (hg : Gl X "sum" := by rfl) (he : starEach [a] X.env = (false, eval a X.env) :: starEach [] X.env := by rfl) (hpl : (backTo pos (starEach [] X.env)).any (·.1) = false := by rfl) : VE X g W B O .fz (.Call (.Name "sum" p0) [a] [] pos) (dCall (one bSum) fs) := v_callB (cr_sum hc) (one_ok fun F ρ σ H d v Q G r P => by
  obtain ⟨q, ns, rfl, rfl, h1, P1⟩ := onInts_ok r P
  exact ⟨q, ns, rfl, h1, post_ok G P1 ok_int⟩) hm ha (hg := hg) (he := he) (hpl := hpl)
theorem v_maxL (hc : X.calm = true) (hm : X.mg "max" = none) (ha : VA X g W B O .ct [a] fs) (hg : Gl X "max" := by rfl) (he : starEach [a] X.env = (false, eval a X.env) :: starEach [] X.env := by rfl) (hpl : (backTo pos (starEach [] X.env)).any (·.1) = false := by rfl) : VE X g W B O .fz (.Call (.Name "max" p0) [a] [] pos) (dCall (one bMaxL) fs) := v_callB (cr_max hc) (one_ok fun F ρ σ H d v Q G r P => by
  obtain ⟨q, ns, rfl, rfl, h1, P1⟩ := onInts_ok r P
  by_cases c : ns.isEmpty = true
  · rw [if_pos c] at P1; exact P1.elim
  · rw [if_neg c] at P1
    refine ⟨q, ns, rfl, h1, by cases ns <;> simp at c ⊢, fun m m1 m2 => ?_⟩
    rw [maxI_eq m1 m2]
    exact post_ok G P1 ok_int) hm ha (hg := hg) (he := he) (hpl := hpl)
theorem v_minL (hc : X.calm = true) (hm : X.mg "min" = none) (ha : VA X g W B O .ct [a] fs) (hg : Gl X "min" := by rfl) (he : starEach [a] X.env = (false, eval a X.env) :: starEach [] X.env := by rfl) (hpl : (backTo pos (starEach [] X.env)).any (·.1) = false := by rfl) : VE X g W B O .fz (.Call (.Name "min" p0) [a] [] pos) (dCall (one bMinL) fs) := v_callB (cr_min hc) (one_ok fun F ρ σ H d v Q G r P => by
  obtain ⟨q, ns, rfl, rfl, h1, P1⟩ := onInts_ok r P
  by_cases c : ns.isEmpty = true
  · rw [if_pos c] at P1; exact P1.elim
  · rw [if_neg c] at P1
    refine ⟨q, ns, rfl, h1, by cases ns <;> simp at c ⊢, fun m m1 m2 => ?_⟩
    rw [minI_eq m1 m2]
    exact post_ok G P1 ok_int) hm ha (hg := hg) (he := he) (hpl := hpl)
theorem v_all (hc : X.calm = true) (hm : X.mg "all" = none) (ha : VA X g W B O .ct [a] fs) (hg : Gl X "all" := by rfl) (he : starEach [a] X.env = (false, eval a X.env) :: starEach [] X.env := by rfl) (hpl : (backTo pos (starEach [] X.env)).any (·.1) = false := by rfl) : VE X g W B O .fz (.Call (.Name "all" p0) [a] [] pos) (dCall (one bAll) fs) := v_callB (cr_all hc) (one_ok fun F ρ σ H d v Q G r P => by
  obtain ⟨q, ns, rfl, rfl, h1, P1⟩ := onBools_ok r P
  exact ⟨q, ns, rfl, h1, post_ok G P1 ok_bl⟩) hm ha (hg := hg) (he := he) (hpl := hpl)
theorem v_any (hc : X.calm = true) (hm : X.mg "any" = none) (ha : VA X g W B O .ct [a] fs) (hg : Gl X "any" := by rfl) (he : starEach [a] X.env = (false, eval a X.env) :: starEach [] X.env := by rfl) (hpl : (backTo pos (starEach [] X.env)).any (·.1) = false := by rfl) : VE X g W B O .fz (.Call (.Name "any" p0) [a] [] pos) (dCall (one bAny) fs) := v_callB (cr_any hc) (one_ok fun F ρ σ H d v Q G r P => by
  obtain ⟨q, ns, rfl, rfl, h1, P1⟩ := onBools_ok r P
  exact ⟨q, ns, rfl, h1, post_ok G P1 ok_bl⟩) hm ha (hg := hg) (he := he) (hpl := hpl)
/-! list(x), tuple(x) -/
def bList : Dt → R Dt
  | .lst l => rok (.lst l)
  | .tup l => rok (.lst l)
  | _ => none
theorem v_list (hm : X.mg "list" = none) (ha : VA X g W B O .ct [a] fs) (hg : Gl X "list" := by rfl) (he : starEach [a] X.env = (false, eval a X.env) :: starEach [] X.env := by rfl) (hpl : (backTo pos (starEach [] X.env)).any (·.1) = false := by rfl) : VE X g W B O .own (.Call (.Name "list" p0) [a] [] pos) (dCall (one bList) fs) := v_callT call_list_of (one_ok fun F ρ σ H d v Q G r P => by
  cases d with
  | lst l =>
    obtain ⟨q, vs, rfl, h1, h2⟩ := r
    exact ⟨q, vs, rfl, .inl (SqL.of h1), fun p' hp => post_new G P hp h2⟩
  | tup l =>
    obtain ⟨q, vs, rfl, h1, h2⟩ := tup_of G.sub r
    exact ⟨q, vs, rfl, .inr h1, fun p' hp => post_new G P hp h2⟩
  | _ => exact P.elim) hm ha (hg := hg) (he := he) (hpl := hpl)
def bTuple : Dt → R Dt
  | .lst l => rok (.tup l)
  | _ => none
theorem v_tuple (hm : X.mg "tuple" = none) (ha : VA X g W B O .ct [a] fs) (hg : Gl X "tuple" := by rfl) (he : starEach [a] X.env = (false, eval a X.env) :: starEach [] X.env := by rfl) (hpl : (backTo pos (starEach [] X.env)).any (·.1) = false := by rfl) : VE X g W B O .fz (.Call (.Name "tuple" p0) [a] [] pos) (dCall (one bTuple) fs) := v_callT call_tuple_of (one_ok fun F ρ σ H d v Q G r P => by
  cases d with
  | lst l =>
    obtain ⟨q, vs, rfl, h1, h2⟩ := r
    exact ⟨q, vs, rfl, .inl ⟨SqL.of h1, fun p' hp => post_newF G P hp h2⟩⟩
  | _ => exact P.elim) hm ha (hg := hg) (he := he) (hpl := hpl)
/-! isinstance with a built-in class -/
def tyName : Dt → Option String
  | .non => some "NoneType"
  | .bl _ => some "bool"
  | .int _ => some "int"
  | .str _ => some "str"
  | .lst _ => some "list"
  | .tup _ => some "tuple"
  | _ => none
def bIsi (T : String) (d : Dt) : R Dt := match tyName d with
  | some t => match kitB t T with
    | some b => rok (.bl b)
    | none => none
  | none => none
theorem tyX_of {K : PySem.W.Frag} {F H : Hp} {d : Dt} {v : V} {t : String} (s : Same F H) (r : RepC K g F H d v) (e : tyName d = some t) : TyX K H v (.type t) := by
  cases d with
  | non => cases e; rw [repC_non r]; exact .base .non
  | bl _ => cases e; rw [repC_bl r]; exact .base (.bl _)
  | int _ => cases e; rw [repC_int r]; exact .base (.int _)
  | str _ => cases e; rw [repC_str r]; exact .base (.str _)
  | lst l =>
    cases e
    obtain ⟨q, vs, rfl, h1, h2⟩ := r
    exact .base (.lst h1)
  | tup l =>
    cases e
    obtain ⟨q, vs, rfl, h1, h2⟩ := tup_of s r
    rcases h1 with (h1 | ⟨o, h1⟩) | ⟨o, its, n, k1, k2, _⟩
    · exact .base (.tup h1)
    · exact .fTuple h1
    · exact .kTuple k1 k2
  | _ => cases e
theorem v_isi {x : Str} {T : String} {p1 : Pos} (hm : X.mg "isinstance" = none) (hmx : X.mg x = none) (ha : VE X g W B O .ct a f) (hx : bootBuiltins x = some (.type T) := by decide +kernel) (hg : Gl X "isinstance" := by rfl) (hgx : Gl X x := by rfl) (hnx : x ≠ "__name__" := by decide) (hdx : (x == ("__debug__" : Str)) = false := by decide)
    (hs1 : starEach [.Name x p1] X.env = (false, eval (.Name x p1) X.env) :: starEach [] X.env := by rfl) (he : starEach [a, .Name x p1] X.env = (false, eval a X.env) :: starEach [.Name x p1] X.env := by rfl) (hpl : (backTo pos (starEach [.Name x p1] X.env)).any (·.1) = false := by rfl) :
    VE X g W B O .fz (.Call (.Name "isinstance" p0) [a, .Name x p1] [] pos) (d1 (bIsi T) f) := by
  have hb : PE X (.Name x p1) (tC (.ty T)) := pe_bltn (v := .ty T) hgx hmx hx rfl hnx hdx
  refine pe_imp (pe_callB (x := "isinstance") (id := "isinstance") call_isi hg hm (by decide +kernel) (pa_cons ha (pa_cons hb pa_nil hs1) he) (by decide) (by decide) he hpl) fun σ H Q ⟨F, ρ, G, P⟩ => ?_
  refine tE_then G P fun d v F1 H1 e1 G1 x1 r1 P1 => ?_
  have r2 : RepC X.K g F1 H1 d v := r1
  cases q1 : tyName d with
  | none =>
    have : bIsi T d = none := by simp only [bIsi, q1]
    rw [this] at P1; exact P1.elim
  | some t =>
    cases q2 : kitB t T with
    | none =>
      have : bIsi T d = none := by simp only [bIsi, q1, q2]
      rw [this] at P1; exact P1.elim
    | some k =>
      have : bIsi T d = rok (.bl k) := by simp only [bIsi, q1, q2]
      rw [this] at P1
      exact ⟨v, .ty T, .type t, .type T, k, rfl, .ty T, tyX_of G1.sub r2 q1, kit_ty q2, P1 _ F1 H1 G1 x1 ok_bl⟩
/-! min, max with default= -/
theorem dflt_reads {H : Hp} {s : Shared} {pins : List (Addr × Obj)} {σ : St} {q : Addr} {ns : List Int} (I : Inv X pins σ H s) (h : SqL X.K H q (ns.map V.int)) : ∃ vs : Array Value, s.heap.IsList q vs ∧ PySem.W.HoldAll s.heap vs.toList ns := by
  obtain ⟨its, r, p, hz⟩ := I.list h
  refine ⟨its.toArray, p.isList, ?_⟩
  have hi : IntsAre its ns := intsAre_of r
  exact PySem.W.HoldAll.of_ints hi
theorem minOf_I (y : Int) (ys : List Int) : PySem.W.minOf y ys = minI (y :: ys) := by
  unfold PySem.W.minOf minI
  have : (fun (a y : Int) => if PySem.W.DatumOrd.lt y a = true then y else a) = fun a y => if y < a then y else a := by
    funext a y
    show (if decide (y < a) = true then y else a) = _
    simp only [decide_eq_true_eq]
  rw [this]
theorem maxOf_I (y : Int) (ys : List Int) : PySem.W.maxOf y ys = maxI (y :: ys) := by
  unfold PySem.W.maxOf maxI
  have : (fun (a y : Int) => if PySem.W.DatumOrd.lt a y = true then y else a) = fun a y => if a < y then y else a := by
    funext a y
    show (if decide (a < y) = true then y else a) = _
    simp only [decide_eq_true_eq]
  rw [this]
theorem holds_int_inv {h : Heap} {v : Value} {n : Int} (x : PySem.W.Holds h v n) : ∃ t, v = .int n t := by
  obtain ⟨as, r⟩ := x
  have r : Reads h v (.int n) as := r
  cases r
  exact ⟨_, rfl⟩
def rDflt (K : PySem.W.Frag) (k : List Int → Int) : List V → List V → Hp → VK → Prop := fun vs zs H Q => ∃ q ns dv, vs = [V.ref q] ∧ zs = [dv] ∧ SqL K H q (ns.map V.int) ∧ (ns = [] → Q dv H) ∧ (ns ≠ [] → Q (.int (k ns)) H)
theorem cr_minD {k : Nat} (hr : Room k X.A) (hc : X.calm = true) : CallRK X (.builtin "min") [Str.ofString "default"] (rDflt X.K minI) := by
  intro pins s σ H xs zs us ws Q I r rz h
  obtain ⟨q, ns, dv, rfl, rfl, hs, h0, h1⟩ := h
  obtain ⟨u, rfl, ru⟩ := vals1 r
  obtain ⟨w, rfl, rw'⟩ := vals1 rz
  cases ru
  obtain ⟨vs, hl, hh⟩ := dflt_reads I hs
  show wpAny _ _ (call (.builtin "min") [.ref q] [(Str.ofString "default", w)]) _ _ _
  refine PySem.W.min_list_datum_default (I.ok.hd hc) hl hh (by have := hr.un; show X.A.units + 1 + 0 < cLine; omega) (fun e h' tk k => ?_) fun y ys i v h' tk e _ hv k => ?_
  · exact ⟨dv, H, I.kept k, rw', h0 e⟩
  · obtain ⟨t, rfl⟩ := holds_int_inv hv
    refine ⟨.int (minI ns), H, I.kept k, ⟨t, ?_⟩, h1 (by rw [e]; simp)⟩
    rw [minOf_I, ← e]
theorem cr_maxD {k : Nat} (hr : Room k X.A) (hc : X.calm = true) : CallRK X (.builtin "max") [Str.ofString "default"] (rDflt X.K maxI) := by
  intro pins s σ H xs zs us ws Q I r rz h
  obtain ⟨q, ns, dv, rfl, rfl, hs, h0, h1⟩ := h
  obtain ⟨u, rfl, ru⟩ := vals1 r
  obtain ⟨w, rfl, rw'⟩ := vals1 rz
  cases ru
  obtain ⟨vs, hl, hh⟩ := dflt_reads I hs
  show wpAny _ _ (call (.builtin "max") [.ref q] [(Str.ofString "default", w)]) _ _ _
  refine PySem.W.max_list_datum_default (I.ok.hd hc) hl hh (by have := hr.un; show X.A.units + 1 + 0 < cLine; omega) (fun e h' tk k => ?_) fun y ys i v h' tk e _ hv k => ?_
  · exact ⟨dv, H, I.kept k, rw', h0 e⟩
  · obtain ⟨t, rfl⟩ := holds_int_inv hv
    refine ⟨.int (maxI ns), H, I.kept k, ⟨t, ?_⟩, h1 (by rw [e]; simp)⟩
    rw [maxOf_I, ← e]
def bDflt (k : List Int → Int) (d z : Dt) : R Dt := onInts (fun ns => if ns.isEmpty = true then rok z else rok (.int (k ns))) d
theorem dflt_core {k : List Int → Int} (σ : St) (H : Hp) (Q : VK) (P : tE X.K g W B O .fz (d2 (bDflt k) f1 f2) σ H Q) : tCKw (rDflt X.K k) (tCons (tE X.K g W B O .ct f1) tNil) (tCons (tE X.K g W B O .fz f2) tNil) σ H Q := by
  obtain ⟨F, ρ, G, P⟩ := P
  refine tE_then G P fun d v F1 H1 e1 G1 x1 r1 P1 => ?_
  refine tE_then G1 P1 fun z w F2 H2 e2 G2 x2 r2 P2 => ?_
  obtain ⟨q, ns, rfl, rfl, h1, P3⟩ := onInts_ok (repC_mono x2.f x2.h r1) P2
  refine ⟨q, ns, w, rfl, rfl, h1, fun e => ?_, fun e => ?_⟩
  · subst e
    exact P3 w F2 H2 G2 (x1.trans x2) r2
  · have : ¬ ns.isEmpty = true := by cases ns <;> simp at e ⊢
    rw [if_neg this] at P3
    exact P3 _ F2 H2 G2 (x1.trans x2) ok_int
theorem v_minD {k0 : Nat} {kpos : Pos} (hr : Room k0 X.A) (hc : X.calm = true) (hm : X.mg "min" = none) (ha : VE X g W B O .ct a f1) (hb : VE X g W B O .fz b f2) (hg : Gl X "min" := by rfl) (hs : starEach [a] X.env = (false, eval a X.env) :: starEach [] X.env := by rfl)
    (he : backTo pos (starEach [a] X.env) = (false, eval a X.env) :: backTo pos (starEach [] X.env) := by rfl) (hpl : (backTo pos (starEach [a] X.env)).any (·.1) = false := by rfl)
    (hall : (backToKw pos (keywordEach [⟨some "default", b, kpos⟩] X.env)).all (·.1.isSome) = true := by rfl) (hnone : (backToKw pos (keywordEach [⟨some "default", b, kpos⟩] X.env)).any (·.1.isNone) = false := by rfl) (hks : (backToKw pos (keywordEach [⟨some "default", b, kpos⟩] X.env)).filterMap (·.1) = [Str.ofString "default"] := by rfl) :
    VE X g W B O .fz (.Call (.Name "min" p0) [a] [⟨some "default", b, kpos⟩] pos) (d2 (bDflt minI) f1 f2) := pe_imp (pe_callBK (cr_minD hr hc) hg hm (by decide +kernel) (pa_cons ha pa_nil hs) (pk_cons hb pk_nil) (by decide) (by decide) he hpl hall hnone hks) fun σ H Q P => dflt_core σ H Q P
theorem v_maxD {k0 : Nat} {kpos : Pos} (hr : Room k0 X.A) (hc : X.calm = true) (hm : X.mg "max" = none) (ha : VE X g W B O .ct a f1) (hb : VE X g W B O .fz b f2) (hg : Gl X "max" := by rfl) (hs : starEach [a] X.env = (false, eval a X.env) :: starEach [] X.env := by rfl)
    (he : backTo pos (starEach [a] X.env) = (false, eval a X.env) :: backTo pos (starEach [] X.env) := by rfl) (hpl : (backTo pos (starEach [a] X.env)).any (·.1) = false := by rfl)
    (hall : (backToKw pos (keywordEach [⟨some "default", b, kpos⟩] X.env)).all (·.1.isSome) = true := by rfl) (hnone : (backToKw pos (keywordEach [⟨some "default", b, kpos⟩] X.env)).any (·.1.isNone) = false := by rfl) (hks : (backToKw pos (keywordEach [⟨some "default", b, kpos⟩] X.env)).filterMap (·.1) = [Str.ofString "default"] := by rfl) :
    VE X g W B O .fz (.Call (.Name "max" p0) [a] [⟨some "default", b, kpos⟩] pos) (d2 (bDflt maxI) f1 f2) := pe_imp (pe_callBK (cr_maxD hr hc) hg hm (by decide +kernel) (pa_cons ha pa_nil hs) (pk_cons hb pk_nil) (by decide) (by decide) he hpl hall hnone hks) fun σ H Q P => dflt_core σ H Q P
end
end VL

set_option Elab.async false
set_option linter.all false
set_option maxRecDepth 100000
set_option maxHeartbeats 4000000
namespace VL
open PySem PySem.Spec PyProof.Rows L2
section
variable {X : Cx} {g : Cfg} {W : WX} {B : Base} {O O1 O2 O' : List SK} {pos p0 apos : Pos} {kd : Kd} {rk : RK} {a b c e : Expr} {es : List Expr} {f f1 f2 f3 : List Dt → R Dt} {fs : List Dt → R (List Dt)} {p p1 p2 : List Dt → R Bool} {s s1 s2 : List Dt → R Fl} {st : Stmt} {rest : List Stmt}

/-! ### own defs: the promise -/
/-- called with data: hands back data, or raises -/
def spV (K : PySem.W.Frag) (g : Cfg) (n : Nat) (rk : RK) (h : List Dt → R Dt) : Sp := fun vs H Q E => ∃ F ds, Same F H ∧ ds.length = n ∧ Reps K g F ds vs ∧
  PostX (fun c => ∀ H', Same H H' → E (.ref (g.cA c)) none H') (h ds) fun d => ∀ v F' H', RetG ⟨H, F, none⟩ F' H' → RetOk K g ⟨H, F, none⟩ F' H' rk d v → Q v H'
def rkK : RK → Kd
  | .flat => .fz
  | .fz => .fz
  | .own => .own
  | .ownf => .own
  | .mu => .fz
theorem Good.called {K : PySem.W.Frag} {F H F' H' : Hp} {ρ : List Dt} {σ : St} (G : Good K g B O F ρ σ H) (r : RetG ⟨H, F, none⟩ F' H') : Good K g B O F' ρ σ H' := G.grow r.1.f r.1.h r.2 r.1.n
/-- own lists of before stand apart from what a call has made -/
theorem Good.apartNew {K : PySem.W.Frag} {F H : Hp} {ρ : List Dt} {σ : St} (G : Good K g B O F ρ σ H) {p : Addr} (h : H p = none) : ∀ i : Nat, O[i]? = some SK.own → σ[i]? ≠ some (some (.ref p)) := fun i hi e => by
  obtain ⟨d, o, h1, h2, v, h3, p', vs', l', e1, e2, e3, e4, e5, e6⟩ := slot_there G hi
  rw [h2] at e
  cases e
  cases h3
  cases e1
  rw [h] at e3
  cases e3
theorem callF_core {n : Nat} {h : List Dt → R Dt} (hn : ∀ (ρ : List Dt) (ds : List Dt), fs ρ = some (.ok ds) → ds.length = n) (σ : St) (H : Hp) (Q : VK) (P : tE X.K g W B O (rkK rk) (dCall h fs) σ H Q) : tCallS (spV X.K g n rk h) (WE W) (tA X.K g W B O .fz fs) σ H Q := by
  obtain ⟨F, ρ, G, P⟩ := P
  refine ⟨F, ρ, G, PostX.mono (PostX.bind P) (fun _ z => z) fun ds e P1 vs F1 H1 G1 x1 r1 => ?_⟩
  refine ⟨F1, ds, G1.sub, hn ρ ds e, r1, PostX.mono P1 (fun c z H' s => z F1 H' (G1.grow (fun _ _ z => z) s (G1.sub.trans s) fun _ _ z => .inl z) x1.f) fun d _ q v F' H' rg ro => ?_⟩
  refine q v F' H' (G1.called rg) (x1.trans rg.1) ?_
  cases rk with
  | flat => exact ro.2
  | fz => exact ro
  | own =>
    refine ⟨?_, fun i hi hs => ?_, fun p hp => ?_⟩
    · obtain ⟨p, vs, l, a1, a2, a3, a4, a5, a6⟩ := ro
      exact ⟨p, vs, l, a1, a2, a3, a4, G1.b0.free a5, a6⟩
    · obtain ⟨p, vs, l, a1, a2, a3, a4, a5, a6⟩ := ro
      rw [a1] at hs
      exact G1.apartNew a5 i hi hs
    · obtain ⟨p', vs, l, a1, a2, a3, a4, a5, a6⟩ := ro
      rw [hp] at a1; cases a1
      exact x1.h.free a5
  | ownf =>
    obtain ⟨ro, _⟩ := ro
    refine ⟨?_, fun i hi hs => ?_, fun p hp => ?_⟩
    · obtain ⟨p, vs, l, a1, a2, a3, a4, a5, a6⟩ := ro
      exact ⟨p, vs, l, a1, a2, a3, a4, G1.b0.free a5, a6⟩
    · obtain ⟨p, vs, l, a1, a2, a3, a4, a5, a6⟩ := ro
      rw [a1] at hs
      exact G1.apartNew a5 i hi hs
    · obtain ⟨p', vs, l, a1, a2, a3, a4, a5, a6⟩ := ro
      rw [hp] at a1; cases a1
      exact x1.h.free a5
  | mu =>
    obtain ⟨r, d0, p, _, e, _⟩ := ro
    cases e
/-- .. with lists that are still grown: what comes back must not lean on them -/
def isFlatR : RK → Bool
  | .flat => true
  | .ownf => true
  | _ => false
theorem callC_core {n : Nat} {h : List Dt → R Dt} (hrk : isFlatR rk = true) (hn : ∀ (ρ : List Dt) (ds : List Dt), fs ρ = some (.ok ds) → ds.length = n) (σ : St) (H : Hp) (Q : VK) (P : tE X.K g W B O (rkK rk) (dCall h fs) σ H Q) : tCallS (spV X.K g n rk h) (WE W) (tA X.K g W B O .ct fs) σ H Q := by
  obtain ⟨F, ρ, G, P⟩ := P
  refine ⟨F, ρ, G, PostX.mono (PostX.bind P) (fun _ z => z) fun ds e P1 vs F1 H1 G1 x1 r1 => ?_⟩
  refine ⟨H1, ds, fun _ _ z => z, hn ρ ds e, repsC_reps G1.sub r1, PostX.mono P1 (fun c z H' s => z F1 H' (G1.grow (fun _ _ z => z) s (G1.sub.trans s) fun _ _ z => .inl z) x1.f) fun d _ q v F' H' rg ro => ?_⟩
  have G2 : Good X.K g B O F1 ρ σ H' := G1.grow (fun _ _ z => z) rg.1.h (G1.sub.trans rg.1.h) fun _ _ z => .inl z
  refine q v F1 H' G2 (x1.trans ⟨fun _ _ z => z, rg.1.h, fun _ _ z => .inl z⟩) ?_
  cases rk with
  | flat => exact rep_flat ro.1 ro.2
  | fz => cases hrk
  | own => cases hrk
  | ownf =>
    obtain ⟨ro, l, rfl, hl⟩ := ro
    obtain ⟨p, vs, l', a1, a2, a3, a4, a5, a6⟩ := ro
    cases a2
    have hB : B.H p = none := G1.b0.free a5
    refine ⟨⟨p, vs, l, a1, rfl, a3, G1.fnone a5, hB, reps_flat (fun d hd => List.all_eq_true.mp hl d hd) a6⟩, fun i hi hs => ?_, fun p' hp => ?_⟩
    · rw [a1] at hs
      exact G1.apartNew a5 i hi hs
    · rw [hp] at a1; cases a1
      exact x1.h.free a5
  | mu => cases hrk
theorem aNil_len {ρ ds : List Dt} (e : aNil ρ = some (.ok ds)) : ds.length = 0 := by cases e; rfl
theorem aCons_len {n : Nat} (h : ∀ (ρ ds : List Dt), fs ρ = some (.ok ds) → ds.length = n) : ∀ (ρ ds : List Dt), aCons f fs ρ = some (.ok ds) → ds.length = n + 1 := fun ρ ds e => by
  unfold aCons at e
  rcases q1 : f ρ with _ | (c | d)
  · rw [q1] at e; cases e
  · rw [q1] at e; cases e
  · rw [q1] at e
    rcases q2 : fs ρ with _ | (c | ds')
    · rw [q2] at e; cases e
    · rw [q2] at e; cases e
    · rw [q2] at e
      cases e
      simp [h ρ ds' q2]
section
variable {k n : Nat} {fa : Addr} {fd : FuncData} {ps : List Str} {h : List Dt → R Dt} {x : Str}
/-- f(e, ..) -/
theorem v_call (tk : Takes X W) (Fo : FnOk X.prog X.w X.K X.mg X.base (L2.CX X.prog X.w) k fa fd ps (spV X.K g n rk h)) (hr : Room k X.A) (hm : X.mg x = some (.ref fa)) (hk : PySem.W.keepIn X.K (.ref fa) = true) (hb : Binds X.K fd ps []) (ha : VA X g W B O .fz (e :: es) fs)
    (hn : ∀ (ρ : List Dt) (ds : List Dt), fs ρ = some (.ok ds) → ds.length = n) (hg : Gl X x := by rfl) (hdb : (x == ("__debug__" : Str)) = false := by decide)
    (he : starEach (e :: es) X.env = (false, eval e X.env) :: starEach es X.env := by rfl) (hpl : (backTo pos (starEach es X.env)).any (·.1) = false := by rfl) : VE X g W B O (rkK rk) (.Call (.Name x p0) (e :: es) [] pos) (dCall h fs) :=
  pe_imp (pe_callS Fo hr hg hm hk hb (fun σ => passAt tk σ) ha hdb he hpl) fun σ H Q P => callF_core hn σ H Q P
theorem v_callC (tk : Takes X W) (Fo : FnOk X.prog X.w X.K X.mg X.base (L2.CX X.prog X.w) k fa fd ps (spV X.K g n rk h)) (hr : Room k X.A) (hm : X.mg x = some (.ref fa)) (hk : PySem.W.keepIn X.K (.ref fa) = true) (hb : Binds X.K fd ps []) (ha : VA X g W B O .ct (e :: es) fs)
    (hrk : isFlatR rk = true) (hn : ∀ (ρ : List Dt) (ds : List Dt), fs ρ = some (.ok ds) → ds.length = n) (hg : Gl X x := by rfl) (hdb : (x == ("__debug__" : Str)) = false := by decide)
    (he : starEach (e :: es) X.env = (false, eval e X.env) :: starEach es X.env := by rfl) (hpl : (backTo pos (starEach es X.env)).any (·.1) = false := by rfl) : VE X g W B O (rkK rk) (.Call (.Name x p0) (e :: es) [] pos) (dCall h fs) :=
  pe_imp (pe_callS Fo hr hg hm hk hb (fun σ => passAt tk σ) ha hdb he hpl) fun σ H Q P => callC_core hrk hn σ H Q P
end
/-! ### a def -/
def start0 (n m : Nat) : List SK := List.replicate n .fz ++ List.replicate m .un
def dFn (rk : RK) (m : Nat) (s : List Dt → R Fl) : List Dt → R Dt := fun ds => rbind (s (ds ++ List.replicate m .non)) fun fl => match fl with
  | .nx _ => match rk with
    | .flat => rok .non
    | .fz => rok .non
    | _ => none
  | .rt d => rok d
theorem good_start {K : PySem.W.Frag} {F H : Hp} {N : List Str} {ds : List Dt} {vs : List V} {n m : Nat} (sub : Same F H) (hn : ds.length = n) (hN : N.length = n + m) (r : Reps K g F ds vs) : Good K g ⟨H, F, none⟩ (start0 n m) F (ds ++ List.replicate m .non) (L2.start N vs) H := by
  have hl := reps_len r
  have hm : N.length - vs.length = m := by omega
  have hst : L2.start N vs = vs.map some ++ List.replicate m none := by unfold L2.start; rw [hm]
  refine ⟨?_, ?_, fun _ _ z => z, fun _ _ z => z, sub, fun _ _ z => .inl z, ?_, ?_⟩
  · rw [hst]; unfold start0; simp; omega
  · rw [hst]; simp; omega
  · intro i k d o h1 h2 h3
    by_cases hi : i < n
    · have e1 : (start0 n m)[i]? = some .fz := by
        unfold start0
        rw [List.getElem?_append_left (by simpa using hi)]
        simp [hi]
      rw [e1] at h1; cases h1
      rw [List.getElem?_append_left (by omega)] at h2
      obtain ⟨v, h4, h5⟩ := reps_get r h2
      rw [hst, List.getElem?_append_left (by simp; omega), List.getElem?_map, h4] at h3
      cases h3
      exact ⟨v, rfl, h5⟩
    · have e1 : (start0 n m)[i]? = (List.replicate m SK.un)[i - n]? := by
        unfold start0
        rw [List.getElem?_append_right (by simpa using hi)]
        simp
      rw [e1, List.getElem?_replicate] at h1
      split at h1
      · cases h1; trivial
      · cases h1
  · intro i j p h1 h2 _ _
    exfalso
    have : SK.own ∈ start0 n m := List.mem_of_getElem? h1
    unfold start0 at this
    simp at this
section
variable {P : Program} {w : World} {K : PySem.W.Frag} {mg : Str → Option Value} {base : Heap}
theorem fn_val {x qual : Str} {st : Stmt} {fa : Addr} {fd : FuncData} {N ps : List Str} {k n m : Nat} {O1 : List SK} {sd : List Dt → R Fl} {rk : RK} (Fu : Fun K x qual st fa fd) (S : FnScope N ps (defScope st)) (hn : ps.length = n) (hN : N.length = n + m)
    (hb : ∀ (cdv : Value) (A : Around) (outer : List Env) (s : Shared) (H F : Hp) (E : XK), Room k (A.deeper (envOfC qual (defScope st) s.heap.objs.size fa cdv)) → Takes (cxOf (L2.CX P w) P w K mg base N qual (defScope st) fa cdv A outer s H E) (fun cls d _ H => E cls d H) →
      VSs (cxOf (L2.CX P w) P w K mg base N qual (defScope st) fa cdv A outer s H E) g (fun cls d _ H => E cls d H) ⟨H, F, none⟩ rk (start0 n m) O1 (defBody st) sd) : FnOk P w K mg base (L2.CX P w) (k + 1) fa fd ps (spV K g n rk (dFn rk m sd)) := by
  refine Fu.okX S (fun vs H Q E h => ?_) fun cdv A outer s H vs Q E hr h => ?_
  · obtain ⟨F, ds, _, hl, r, _⟩ := h
    rw [← reps_len r, hl, hn]
  · obtain ⟨F, ds, sub, hl, r, post⟩ := h
    refine ⟨_, hb cdv A outer s H F E hr (takes_of rfl rfl rfl rfl), ?_⟩
    refine ⟨F, _, good_start sub hl hN r, PostX.mono (PostX.bind post) (fun c z σ' H' s => z H' s) fun fl _ q => ?_⟩
    cases fl with
    | nx ρ' =>
      intro F' σ' H' G' s'
      cases rk with
      | flat => exact q .non F' H' G'.ret ⟨rfl, rep_non (K := K) (g := g) (F := F')⟩
      | fz => exact q .non F' H' G'.ret (rep_non (K := K) (g := g) (F := F'))
      | own => exact q.elim
      | ownf => exact q.elim
      | mu => exact q.elim
    | rt d => exact fun v F' H' rg ro => q v F' H' rg ro
/-- another function, where it has a value -/
theorem fn_is {fa : Addr} {fd : FuncData} {ps : List Str} {k n : Nat} {rk : RK} {h h' : List Dt → R Dt} (Fo : FnOk P w K mg base (L2.CX P w) k fa fd ps (spV K g n rk h)) (e : ∀ ds r, ds.length = n → h' ds = some r → h ds = some r) : FnOk P w K mg base (L2.CX P w) k fa fd ps (spV K g n rk h') :=
  Fo.imp fun vs H Q E ⟨F, ds, sub, hl, r, post⟩ => ⟨F, ds, sub, hl, r, by
    cases q : h' ds with
    | none => rw [q] at post; exact post.elim
    | some z =>
      rw [q] at post
      rw [e ds z hl q]
      exact post⟩
end

/-! ### lists by their methods -/
def onLst (i : Nat) (k : List Dt → R (List Dt)) : List Dt → R Fl := fun ρ => match ρ[i]? with
  | some (.lst l) => rbind (k l) fun l' => rok (.nx (ρ.set i (.lst l')))
  | _ => none
/-- a rule for x.m(e): x an own list's name, m changes it -/
theorem list_meth {i : Nat} {x name : Str} {id : String} {px apos cpos : Pos} {r : V → List V → Hp → VK → Prop} {k : List Dt → List Dt → R (List Dt)} (slot : Slot "list" name id) (hty : typeOf (.builtin id) = pure (.type "method_descriptor")) (hm : MtR X id r) (ha : VA X g W B O .fz (e :: es) fs)
    (ok : ∀ p l vs ds ws F H Q er (okk : List Dt → Prop), H p = some (.lst vs) → Reps X.K g F l vs → Reps X.K g F ds ws → Same F H → PostX er (k ds l) okk → (∀ l' vs' v, okk l' → Reps X.K g F l' vs' → Q v (upd H p (.lst vs'))) → r (.ref p) ws H Q)
    (hO : O[i]? = some .own := by rfl) (hN : X.N[i]? = some x := by rfl) (hv : Vis X.env.scope x := by first | exact Or.inl rfl | exact Or.inr (Or.inl rfl) | exact Or.inr (Or.inr rfl)) (hd : (x == ("__debug__" : Str)) = false := by decide) (hcd : (x == ("__classdict__" : Str)) = false := by decide)
    (hbase : attributeBase (.Name x px) name X.env (eval (.Name x px) X.env) = eval (.Name x px) X.env := by rfl)
    (hfew : ((backTo cpos (starEach (e :: es) X.env)).all (fun x => !x.1) && (backToKw cpos (keywordEach [] X.env)).all (fun x => x.1.isSome)
      && decide ((e :: es).length + ([] : List Keyword).length + (if ([] : List Keyword).isEmpty then 0 else 1) < 30)) = true := by rfl)
    (hline : (apos.endLine == cpos.line) = true := by rfl) (hs : starEach (e :: es) X.env = (false, eval e X.env) :: starEach es X.env := by rfl) (hplain : (backTo cpos (starEach es X.env)).any (·.1) = false := by rfl)
    (hsw : swapsWith (.Call (.Attribute (.Name x px) name apos) (e :: es) [] cpos) none pos.line X.env = pure false := by rfl) :
    VS X g W B rk O O (.Expr (.Call (.Attribute (.Name x px) name apos) (e :: es) [] cpos) pos) (fun ρ => rbind (fs ρ) fun ds => onLst i (k ds) ρ) := ps_imp (ps_expr (pe_bm PySem.F.plainAttrs_list slot hty hm (pe_var hN hv hd hcd) ha hbase hfew hline hs hplain) hsw) fun D σ H ⟨F, ρ, G, P⟩ => by
  obtain ⟨d, o, h1, h2, v, h3, q, vs, l, a1, a2, a3, a4, a5, a6⟩ := slot_there G hO
  subst h3 a1 a2
  refine ⟨_, h2, .inl ⟨rfl, _, SqL.of a3⟩, F, ρ, G, PostX.mono (PostX.bind P) (fun _ z => erW z) fun ds _ P1 ws F1 H1 G1 x1 r1 => ?_⟩
  have P2 : PostX (ErW g W B) (onLst i (k ds) ρ) _ := P1
  unfold onLst at P2
  rw [h1] at P2
  obtain ⟨d', o', b1, b2, v', b3, q', vs', l', c1, c2, c3, c4, c5, c6⟩ := slot_there G1 hO
  rw [h2] at b2; cases b2
  cases b3
  cases c1
  rw [h1] at b1; cases b1
  cases c2
  refine ok q l vs' ds ws F1 H1 _ _ _ c3 c6 r1 G1.sub (PostX.bind P2) fun l2 vs2 _ q2 r2 => ?_
  exact q2 F1 σ _ (G1.writeO hO h2 c3 c4 c5 r2) x1.f
def kAppend : List Dt → List Dt → R (List Dt) := fun ds l => match ds with
  | [d] => if l.length < 16777216 then rok (l ++ [d]) else none
  | _ => none
def dAppend (i : Nat) (f : List Dt → R Dt) : List Dt → R Fl := fun ρ => rbind (aCons f aNil ρ) fun ds => onLst i (kAppend ds) ρ
theorem vs_append (i : Nat) {x : Str} {px apos cpos : Pos} (ha : VE X g W B O .fz e f) (hO : O[i]? = some .own := by rfl) (hN : X.N[i]? = some x := by rfl) (hv : Vis X.env.scope x := by first | exact Or.inl rfl | exact Or.inr (Or.inl rfl) | exact Or.inr (Or.inr rfl)) (hd : (x == ("__debug__" : Str)) = false := by decide) (hcd : (x == ("__classdict__" : Str)) = false := by decide)
    (hbase : attributeBase (.Name x px) "append" X.env (eval (.Name x px) X.env) = eval (.Name x px) X.env := by rfl)
    (hfew : ((backTo cpos (starEach [e] X.env)).all (fun x => !x.1) && (backToKw cpos (keywordEach [] X.env)).all (fun x => x.1.isSome)
      && decide ([e].length + ([] : List Keyword).length + (if ([] : List Keyword).isEmpty then 0 else 1) < 30)) = true := by rfl)
    (hline : (apos.endLine == cpos.line) = true := by rfl) (hs : starEach [e] X.env = (false, eval e X.env) :: starEach [] X.env := by rfl) (hplain : (backTo cpos (starEach [] X.env)).any (·.1) = false := by rfl)
    (hsw : swapsWith (.Call (.Attribute (.Name x px) "append" apos) [e] [] cpos) none pos.line X.env = pure false := by rfl) :
    VS X g W B rk O O (.Expr (.Call (.Attribute (.Name x px) "append" apos) [e] [] cpos) pos) (dAppend i f) :=
  list_meth (k := kAppend) PySem.F.slot_list_append PySem.F.type_list_append mt_append (va_consF ha va_nil hs) (fun p l vs ds ws F H Q er okk h1 h2 h3 h4 P k => by
    match ds, P, h3 with
    | [d], P, h3 =>
      rw [Reps] at h3
      obtain ⟨v, r, rfl, h5, h6⟩ := h3
      rw [Reps] at h6
      subst h6
      by_cases c : l.length < 16777216
      · have q : kAppend [d] l = rok (l ++ [d]) := if_pos c
        rw [q] at P
        exact ⟨p, vs, v, rfl, rfl, h1, by rw [← reps_len h2, sizeLine_eq]; exact c, k _ _ _ P (reps_append h2 (reps_cons h5 reps_nil))⟩
      · have q : kAppend [d] l = none := if_neg c
        rw [q] at P; exact P.elim
    | [], P, _ => exact P.elim
    | _ :: _ :: _, P, _ => exact P.elim) hO hN hv hd hcd hbase hfew hline hs hplain hsw
def kExtend : List Dt → List Dt → R (List Dt) := fun ds l => match ds with
  | [.lst m] => if l.length + m.length ≤ 16777216 then rok (l ++ m) else none
  | _ => none
def dExtend (i : Nat) (f : List Dt → R Dt) : List Dt → R Fl := fun ρ => rbind (aCons f aNil ρ) fun ds => onLst i (kExtend ds) ρ
theorem vs_extend (i : Nat) {x : Str} {px apos cpos : Pos} (ha : VE X g W B O .fz e f) (hO : O[i]? = some .own := by rfl) (hN : X.N[i]? = some x := by rfl) (hv : Vis X.env.scope x := by first | exact Or.inl rfl | exact Or.inr (Or.inl rfl) | exact Or.inr (Or.inr rfl)) (hd : (x == ("__debug__" : Str)) = false := by decide) (hcd : (x == ("__classdict__" : Str)) = false := by decide)
    (hbase : attributeBase (.Name x px) "extend" X.env (eval (.Name x px) X.env) = eval (.Name x px) X.env := by rfl)
    (hfew : ((backTo cpos (starEach [e] X.env)).all (fun x => !x.1) && (backToKw cpos (keywordEach [] X.env)).all (fun x => x.1.isSome)
      && decide ([e].length + ([] : List Keyword).length + (if ([] : List Keyword).isEmpty then 0 else 1) < 30)) = true := by rfl)
    (hline : (apos.endLine == cpos.line) = true := by rfl) (hs : starEach [e] X.env = (false, eval e X.env) :: starEach [] X.env := by rfl) (hplain : (backTo cpos (starEach [] X.env)).any (·.1) = false := by rfl)
    (hsw : swapsWith (.Call (.Attribute (.Name x px) "extend" apos) [e] [] cpos) none pos.line X.env = pure false := by rfl) :
    VS X g W B rk O O (.Expr (.Call (.Attribute (.Name x px) "extend" apos) [e] [] cpos) pos) (dExtend i f) :=
  list_meth (k := kExtend) PySem.F.slot_list_extend PySem.F.type_list_extend mt_extend (va_consF ha va_nil hs) (fun p l vs ds ws F H Q er okk h1 h2 h3 h4 P k => by
    match ds, P, h3 with
    | [.lst m], P, h3 =>
      rw [Reps] at h3
      obtain ⟨v, r, rfl, h5, h6⟩ := h3
      rw [Reps] at h6
      subst h6
      rw [Rep] at h5
      obtain ⟨q, zs, rfl, h7, h8⟩ := h5
      by_cases c : l.length + m.length ≤ 16777216
      · have e : kExtend [.lst m] l = rok (l ++ m) := if_pos c
        rw [e] at P
        exact ⟨p, q, vs, zs, rfl, rfl, h1, h4 _ _ h7, by rw [← reps_len h2, ← reps_len h8, sizeLine_eq]; exact c, k _ _ _ P (reps_append h2 h8)⟩
      · have e : kExtend [.lst m] l = none := if_neg c
        rw [e] at P; exact P.elim
    | [], P, _ => exact P.elim
    | .non :: _, P, _ => exact P.elim
    | .bl _ :: _, P, _ => exact P.elim
    | .str _ :: _, P, _ => exact P.elim
    | .int _ :: _, P, _ => exact P.elim
    | .tup _ :: _, P, _ => exact P.elim
    | .obj _ _ :: _, P, _ => exact P.elim
    | .scr _ :: _, P, _ => exact P.elim
    | .exc _ :: _, P, _ => exact P.elim
    | .dct _ _ :: _, P, _ => exact P.elim
    | .lst _ :: _ :: _, P, _ => exact P.elim) hO hN hv hd hcd hbase hfew hline hs hplain hsw
def kInsert : List Dt → List Dt → R (List Dt) := fun ds l => match ds with
  | [.int i, d] => if 0 ≤ i ∧ i < 2 ^ 63 ∧ l.length < 16777216 then rok (l.take i.toNat ++ [d] ++ l.drop i.toNat) else none
  | _ => none
def dInsert (i : Nat) (f1 f2 : List Dt → R Dt) : List Dt → R Fl := fun ρ => rbind (aCons f1 (aCons f2 aNil) ρ) fun ds => onLst i (kInsert ds) ρ
theorem kInsert_inv {ds l : List Dt} {er : Nat → Prop} {ok : List Dt → Prop} (P : PostX er (kInsert ds l) ok) : ∃ i d, ds = [.int i, d] ∧ (0 ≤ i ∧ i < 2 ^ 63 ∧ l.length < 16777216) ∧ ok (l.take i.toNat ++ [d] ++ l.drop i.toNat) := by
  unfold kInsert at P
  split at P
  · rename_i i d
    by_cases c : 0 ≤ i ∧ i < 2 ^ 63 ∧ l.length < 16777216
    · rw [if_pos c] at P; exact ⟨i, d, rfl, c, P⟩
    · rw [if_neg c] at P; exact P.elim
  · exact P.elim
theorem vs_insert (i : Nat) {x : Str} {px apos cpos : Pos} (ha : VE X g W B O .fz a f1) (hb : VE X g W B O .fz b f2) (hO : O[i]? = some .own := by rfl) (hN : X.N[i]? = some x := by rfl) (hv : Vis X.env.scope x := by first | exact Or.inl rfl | exact Or.inr (Or.inl rfl) | exact Or.inr (Or.inr rfl)) (hd : (x == ("__debug__" : Str)) = false := by decide) (hcd : (x == ("__classdict__" : Str)) = false := by decide)
    (hbase : attributeBase (.Name x px) "insert" X.env (eval (.Name x px) X.env) = eval (.Name x px) X.env := by rfl)
    (hfew : ((backTo cpos (starEach [a, b] X.env)).all (fun x => !x.1) && (backToKw cpos (keywordEach [] X.env)).all (fun x => x.1.isSome)
      && decide ([a, b].length + ([] : List Keyword).length + (if ([] : List Keyword).isEmpty then 0 else 1) < 30)) = true := by rfl)
    (hline : (apos.endLine == cpos.line) = true := by rfl) (hs : starEach [a, b] X.env = (false, eval a X.env) :: starEach [b] X.env := by rfl) (hs2 : starEach [b] X.env = (false, eval b X.env) :: starEach [] X.env := by rfl) (hplain : (backTo cpos (starEach [b] X.env)).any (·.1) = false := by rfl)
    (hsw : swapsWith (.Call (.Attribute (.Name x px) "insert" apos) [a, b] [] cpos) none pos.line X.env = pure false := by rfl) :
    VS X g W B rk O O (.Expr (.Call (.Attribute (.Name x px) "insert" apos) [a, b] [] cpos) pos) (dInsert i f1 f2) :=
  list_meth (k := kInsert) PySem.F.slot_list_insert PySem.F.type_list_insert mt_insert (va_consF ha (va_consF hb va_nil hs2) hs) (fun p l vs ds ws F H Q er okk h1 h2 h3 h4 P k => by
    obtain ⟨j, d, rfl, ⟨c1, c2, c3⟩, P⟩ := kInsert_inv P
    rw [Reps] at h3
    obtain ⟨v, r, rfl, h5, h6⟩ := h3
    rw [Reps] at h6
    obtain ⟨v2, r2, rfl, h7, h8⟩ := h6
    rw [Reps] at h8
    subst h8
    rw [Rep] at h5
    subst h5
    exact ⟨p, vs, j, v2, rfl, rfl, h1, by rw [← reps_len h2, sizeLine_eq]; exact c3, c1, c2, k _ _ _ P (reps_append (reps_append (reps_take _ h2) (reps_cons h7 reps_nil)) (reps_drop _ h2))⟩) hO hN hv hd hcd hbase hfew hline hs hplain hsw
/-- xs[i] = e -/
def dPut (i : Nat) (fv fi : List Dt → R Dt) : List Dt → R Fl := fun ρ => rbind (fv ρ) fun d => rbind (fi ρ) fun j => match j with
  | .int j => onLst i (fun l => match ixN l.length j with
    | some m => rok (l.set m d)
    | none => none) ρ
  | _ => none
theorem vs_put (i : Nat) {x : Str} {px tpos : Pos} {ix : Expr} {fi : List Dt → R Dt} (hv0 : VE X g W B O .fz e f) (hi0 : VE X g W B O .ct ix fi) (hO : O[i]? = some .own := by rfl) (hN : X.N[i]? = some x := by rfl) (hv : Vis X.env.scope x := by first | exact Or.inl rfl | exact Or.inr (Or.inl rfl) | exact Or.inr (Or.inr rfl)) (hd : (x == ("__debug__" : Str)) = false := by decide) (hcd : (x == ("__classdict__" : Str)) = false := by decide)
    (ha : ∀ v, assign (.Subscript (.Name x px) ix tpos) X.env v = (do
      let ov ← holding [v] (eval (.Name x px) X.env)
      let iv ← holding [v, ov] (eval ix X.env)
      standAt tpos
      holding [v, ov, iv] (setItem ov iv v)
      release [v, ov, iv] []) := by intro _; rfl)
    (hs : swapsWithSole [.Subscript (.Name x px) ix tpos] e pos.line X.env = pure false := by rfl) (hw : swappedStores [.Subscript (.Name x px) ix tpos] e X.env = pure none := by rfl)
    (h1 : (assignEach [.Subscript (.Name x px) ix tpos] X.env).map (·.2) = [assign (.Subscript (.Name x px) ix tpos) X.env] := by rfl) :
    VS X g W B rk O O (.Assign [.Subscript (.Name x px) ix tpos] e pos) (dPut i f fi) := ps_imp (ps_asg hv0 (pg_sub (pe_var hN hv hd hcd) hi0 set_list ha) hs hw h1) fun D σ H ⟨F, ρ, G, P⟩ => by
  refine tE_then G P fun d v F1 H1 e1 G1 x1 r1 P1 => ?_
  obtain ⟨d0, o, h1, h2, v0, h3, q, vs, l, a1, a2, a3, a4, a5, a6⟩ := slot_there G1 hO
  subst h3 a1 a2
  refine ⟨_, h2, tE_then G1 P1 fun j w F2 H2 e2 G2 x2 r2 P2 => ?_⟩
  obtain ⟨d', o', b1, b2, v', b3, q', vs', l', c1, c2, c3, c4, c5, c6⟩ := slot_there G2 hO
  rw [h2] at b2; cases b2
  cases b3
  cases c1
  rw [h1] at b1; cases b1
  cases c2
  cases j <;> first | exact False.elim P2 | skip
  rename_i j
  have P3 : PostX (ErW g W B) (onLst i (fun l => match ixN l.length j with | some m => rok (l.set m d) | none => none) ρ) _ := P2
  unfold onLst at P3
  rw [h1] at P3
  cases em : ixN l.length j with
  | none => simp only [em] at P3; exact P3.elim
  | some m =>
    simp only [em] at P3
    refine ⟨q, vs', j, m, rfl, ct_int r2, c3, by rw [← reps_len c6]; exact em, ?_⟩
    exact P3 F2 σ _ (G2.writeO hO h2 c3 c4 c5 (reps_set m c6 (rep_mono x2.f _ _ r1))) (x1.trans x2).f
/-- a, b = e -/
def dSet2 (i j : Nat) (f : List Dt → R Dt) : List Dt → R Fl := fun ρ => rbind (f ρ) fun d => rbind ((setT2 i j d ρ).map Except.ok) fun ρ' => rok (.nx ρ')
theorem vs_set2 (i j : Nat) {x y : Str} {px py tpos : Pos} {k : Nat} (hc : X.calm = true) (hN : X.N.Nodup) (h : VE X g W B O .fz e f) (hi : X.N[i]? = some x := by rfl) (hj : X.N[j]? = some y := by rfl) (hx : Loc X.env.scope x := by first | exact Or.inl rfl | exact Or.inr rfl) (hy : Loc X.env.scope y := by first | exact Or.inl rfl | exact Or.inr rfl)
    (hf : X.fn x = true ∨ X.env.scope.names.lookup x = some .local := by first | exact .inl rfl | exact .inr rfl) (hf' : X.fn y = true ∨ X.env.scope.names.lookup y = some .local := by first | exact .inl rfl | exact .inr rfl)
    (hs : swapsWithSole [.Tuple [.Name x px, .Name y py] k tpos] e pos.line X.env = pure false := by rfl) (hw : swappedStores [.Tuple [.Name x px, .Name y py] k tpos] e X.env = pure none := by rfl)
    (h1 : (assignEach [.Tuple [.Name x px, .Name y py] k tpos] X.env).map (·.2) = [assign (.Tuple [.Name x px, .Name y py] k tpos) X.env] := by rfl) : VS X g W B rk O ((O.set i .fz).set j .fz) (.Assign [.Tuple [.Name x px, .Name y py] k tpos] e pos) (dSet2 i j f) :=
  ps_imp (ps_asg h (vg_tup2 (g := g) (B := B) (O := O) i j hc hN hi hj hx hy hf hf') hs hw h1) fun D σ H ⟨F, ρ, G, P⟩ => by
  refine tE_then G P fun d v F1 H1 e1 G1 x1 r1 P1 => ?_
  cases q : setT2 i j d ρ with
  | none => rw [q] at P1; exact P1.elim
  | some ρ' =>
    rw [q] at P1
    exact ⟨F1, ρ, d, G1, r1, ρ', q, fun σ' G' _ => P1 F1 σ' H1 G' x1.f⟩
/-- raise X('..') -/
def dRaise (c : Nat) : List Dt → R Fl := fun _ => some (.error c)
theorem vs_raise (c : Nat) {x m : Str} {j : Nat} {p p2 : Pos} (hc : X.calm = true) (tk : Takes X W) (q : PySem.W.excIn X.K (g.cA c) [.type "ValueError", .type "Exception", .type "BaseException", .type "object"] "ValueError.__new__" = true) (gC : X.mg x = some (.ref (g.cA c))) (kC : PySem.W.keepIn X.K (.ref (g.cA c)) = true) (r : Raises X (.ref (g.cA c))) (hg : Gl X x := by rfl)
    (hdb : (x == ("__debug__" : Str)) = false := by decide) : VS X g W B rk O O' (.Raise (some (.Call (.Name x p) [.Constant (.str m) j p2] [] pos)) none p0) (dRaise c) := ps_imp (ps_raise hc tk (pmk_own PySem.F.excBase_ValueError q gC kC r hg hdb)) fun D σ H ⟨F, ρ, G, P⟩ => P σ H G.b0
end
end VL

set_option Elab.async false
set_option linter.all false
set_option maxRecDepth 100000
set_option maxHeartbeats 4000000
namespace VL
open PySem PySem.Spec PyProof.Rows L2
/-! ### list comprehensions -/
def wipeO (O : List SK) : List Nat → List SK
  | [] => O
  | v :: vs => (wipeO O vs).set v .un
section
variable {K : PySem.W.Frag} {g : Cfg} {B : Base} {O : List SK} {F F' H H' : Hp} {ρ : List Dt} {σ : St} {d : Dt} {v : V}
theorem Good.unsetS (G : Good K g B O F ρ σ H) (i : Nat) : Good K g B (O.set i .un) F ρ (σ.set i none) H where
  lenO := by simpa using G.lenO
  lenR := by simpa using G.lenR
  b0 := G.b0
  bF := G.bF
  sub := G.sub
  new := G.new
  slot := fun j k d' o h1 h2 h3 => by
    rcases getE_set h1 with ⟨a1, a2⟩ | ⟨a1, a2⟩
    · subst a2; trivial
    · rw [List.getElem?_set_ne (Ne.symm a1)] at h3
      exact G.slot j k d' o a2 h2 h3
  apart := fun j k p h1 h2 h3 h4 => by
    rcases getE_set h1 with ⟨_, a2⟩ | ⟨a1, a2⟩
    · cases a2
    · rcases getE_set h2 with ⟨_, b2⟩ | ⟨b1, b2⟩
      · cases b2
      · rw [List.getElem?_set_ne (Ne.symm a1)] at h3
        rw [List.getElem?_set_ne (Ne.symm b1)] at h4
        exact G.apart j k p a2 b2 h3 h4
theorem Good.wiped (G : Good K g B O F ρ σ H) : ∀ vs : List Nat, Good K g B (wipeO O vs) F ρ (wipe σ vs) H
  | [] => G
  | v :: vs => (Good.wiped G vs).unsetS v
theorem wipe_wipe (σ : St) (vs : List Nat) : wipe (wipe σ vs) vs = wipe σ vs := by
  apply List.ext_getElem?
  intro k
  rw [wipe_get, wipe_get]
  by_cases hk : k ∈ vs
  · rw [if_pos hk, if_pos hk]
    cases σ[k]? <;> rfl
  · rw [if_neg hk, if_neg hk]
/-- a list that no slot knows is written -/
theorem Good.writeN (G : Good K g B O F ρ σ H) {p : Addr} {o : HO} {ws : List V} (hL : H p = some (.lst ws)) (hF : F p = none) (hB : B.H p = none) (ap : ∀ i : Nat, O[i]? = some SK.own → σ[i]? ≠ some (some (.ref p))) : Good K g B O F ρ σ (upd H p o) where
  lenO := G.lenO
  lenR := G.lenR
  b0 := fun a o e => by rw [upd_ne (ne_of_none e hB)]; exact G.b0 _ _ e
  bF := G.bF
  sub := fun a o e => by rw [upd_ne (ne_of_none e hF)]; exact G.sub _ _ e
  new := G.new
  slot := fun j k d' o h1 h2 h3 => by
    have q := G.slot j k d' o h1 h2 h3
    cases k with
    | un => trivial
    | fz => exact q
    | own =>
      obtain ⟨v, e, p', vs2, l2, e1, e2, e3, e4, e5, e6⟩ := q
      refine ⟨v, e, p', vs2, l2, e1, e2, ?_, e4, e5, e6⟩
      have ne : p' ≠ p := fun z => ap j h1 (by rw [h3, e, e1, z])
      rw [upd_ne ne]; exact e3
    | me =>
      obtain ⟨q', e1, e2, m⟩ := q
      have ne := m.ne hL
      obtain ⟨c, st, dx, zs, m1, m2, m3, m4, m5⟩ := m
      exact ⟨q', e1, e2, c, st, dx, zs, m1, by rw [upd_ne ne]; exact m2, m3, m4, m5⟩
    | bo => exact q
  apart := G.apart
end
def val {α : Type} : R α → Option α
  | some (.ok a) => some a
  | _ => none
theorem val_eq {α : Type} {r : R α} {a : α} (h : val r = some a) : r = some (.ok a) := by
  rcases r with _ | (c | b)
  · cases h
  · cases h
  · cases h; rfl
@[simp] theorem val_ok {α : Type} (a : α) : val (rok a) = some a := rfl
@[simp] theorem val_ok' {α : Type} (a : α) : val (some (.ok a)) = some a := rfl
def dCompL (set : Dt → List Dt → Option (List Dt)) (p : List Dt → R Bool) (f : List Dt → R Dt) (ρ : List Dt) : List Dt → Option (List Dt)
  | [] => some []
  | d :: ds => (set d ρ).bind fun ρ1 => (val (p ρ1)).bind fun k => if k then (val (f ρ1)).bind fun y => (dCompL set p f ρ ds).map (y :: ·) else dCompL set p f ρ ds
def dComp (it : List Dt → R (List Dt)) (set : Dt → List Dt → Option (List Dt)) (p : List Dt → R Bool) (f : List Dt → R Dt) : List Dt → R Dt := fun ρ => rbind (it ρ) fun ds => if ds.length < 16777216 then (dCompL set p f ρ ds).map fun l => Except.ok (.lst l) else none
abbrev W0 : WX := fun _ _ _ _ => False
def VTs (X : Cx) (g : Cfg) (W : WX) (B : Base) (O : List SK) (es : List Expr) (f : List Dt → R Bool) : Prop := PTs X es (tT X.K g W B O f)
def pYes : List Dt → R Bool := fun _ => rok true
section
variable {X : Cx} {g : Cfg} {W : WX} {B : Base} {O O1 O2 O' : List SK} {pos p0 apos : Pos} {kd : Kd} {rk : RK} {a b c e : Expr} {es : List Expr} {f f1 f2 f3 : List Dt → R Dt} {fs : List Dt → R (List Dt)} {p p1 p2 : List Dt → R Bool} {s s1 s2 : List Dt → R Fl} {st : Stmt} {rest : List Stmt}
theorem pts_imp {ifs : List Expr} {t t' : TT} (h : PTs X ifs t) (k : ∀ σ H Q, t' σ H Q → t σ H Q) : PTs X ifs t' := ⟨fun pins s σ H Q I q => h.run pins s σ H Q I (k _ _ _ q)⟩
theorem vts_nil : VTs X g W B O [] pYes := pts_imp pts_nil fun σ H Q ⟨F, ρ, G, P⟩ => P F H G (Ext.refl _ _)
theorem vts_one (h : VT X g W B O c p) : VTs X g W B O [c] p := pts_one h
theorem lc_core' {it : List Dt → R (List Dt)} {set : Dt → List Dt → Option (List Dt)} {vs : List Nat} (σ : St) (H : Hp) (Q : VK) (P : tE X.K g W B O .own (dComp it set p f) σ H Q) :
    tLc (tI X.K g W B O it) (tG X.K g B (wipeO O vs) O1 vs set) (tT X.K g W0 B O1 p) (tE X.K g W0 B O1 .fz f) vs σ H Q := by
  obtain ⟨F, ρ, G, P⟩ := P
  refine ⟨F, ρ, G, PostX.mono (PostX.bind P) (fun _ z => z) fun ds _ P1 J F1 H1 G1 x1 wk1 => ?_⟩
  intro D hD
  by_cases cl : ds.length < 16777216
  · rw [if_pos cl] at P1
    cases ql : dCompL set p f ρ ds with
    | none => rw [ql] at P1; exact P1.elim
    | some l =>
      rw [ql] at P1
      have hBD : B.H D = none := G1.b0.free hD
      refine ⟨fun i m H2 => m = ds.length - i ∧ i ≤ ds.length ∧ ∃ F2 acc accd rest, Good X.K g B O F2 ρ σ H2 ∧ Ext F1 H1 F2 H2 ∧ H2 D = some (.lst acc) ∧ F2 D = none ∧ Reps X.K g F2 accd acc ∧ dCompL set p f ρ (ds.drop i) = some rest ∧ accd ++ rest = l ∧ acc.length ≤ i, ?_, ?_⟩
      · exact ⟨_, rfl, Nat.zero_le _, F1, [], [], l, G1.alloc hD, ⟨fun _ _ z => z, same_upd hD, fun _ _ z => .inl z⟩, upd_same, G1.fnone hD, reps_nil, ql, rfl, Nat.le_refl _⟩
      · rintro i m H2 ⟨rfl, hi, F2, acc, accd, rest, G2, x2, h2D, hF2D, r2, q2, e2, hlen⟩
        have G2w := G2.wiped vs
        have w := wk1 _ i ρ (wipe σ vs) H2 F2 G2w x2.f
        cases q : ds[i]? with
        | none =>
          rw [q] at w
          have hl : ds.length ≤ i := List.getElem?_eq_none_iff.mp q
          rw [List.drop_eq_nil_of_le hl] at q2
          cases q2
          rw [List.append_nil] at e2
          subst e2
          refine .inl ⟨w, P1 (.ref D) F2 H2 G2 (x1.trans x2) ⟨⟨D, acc, accd, rfl, rfl, h2D, hF2D, hBD, r2⟩, G1.apartNew hD, fun p' hp => ?_⟩⟩
          cases hp
          exact x1.h.free hD
        | some d =>
          rw [q] at w
          obtain ⟨w1, w2⟩ := w
          have hl : i < ds.length := (List.getElem?_eq_some_iff.mp q).1
          have hd : ds.drop i = d :: ds.drop (i + 1) := by
            rw [List.drop_eq_getElem_cons hl]
            rw [List.getElem?_eq_getElem hl] at q
            cases q; rfl
          rw [hd] at q2
          unfold dCompL at q2
          cases qs : set d ρ with
          | none => rw [qs] at q2; cases q2
          | some ρ1 =>
            rw [qs] at q2
            have q2 : ((val (p ρ1)).bind fun k => if k = true then (val (f ρ1)).bind fun y => (dCompL set p f ρ (ds.drop (i + 1))).map (y :: ·) else dCompL set p f ρ (ds.drop (i + 1))) = some rest := q2
            cases qp : val (p ρ1) with
            | none => rw [qp] at q2; cases q2
            | some k =>
              rw [qp] at q2
              have q2 : (if k = true then (val (f ρ1)).bind fun y => (dCompL set p f ρ (ds.drop (i + 1))).map (y :: ·) else dCompL set p f ρ (ds.drop (i + 1))) = some rest := q2
              refine .inr ⟨w1, fun H' => ∃ F2 acc accd rest, Good X.K g B O F2 ρ σ H' ∧ Ext F1 H1 F2 H' ∧ H' D = some (.lst acc) ∧ F2 D = none ∧ Reps X.K g F2 accd acc ∧ dCompL set p f ρ (ds.drop (i + 1)) = some rest ∧ accd ++ rest = l ∧ acc.length ≤ i + 1,
                fun H' h => ⟨_, by omega, rfl, by omega, h⟩, fun x H3 y => ?_⟩
              obtain ⟨F3, G3, x3, r3⟩ := w2 x H3 y
              refine ⟨F3, ρ, d, G3, r3, ρ1, qs, fun σ' G' hw => ⟨by rw [hw, wipe_wipe], ?_⟩⟩
              refine ⟨F3, ρ1, G', ?_⟩
              rw [val_eq qp]
              intro F4 H4 G4 x4
              have keep : ∀ {Fa Ha : Hp}, Ext F2 H2 Fa Ha → Ha D = some (.lst acc) ∧ Fa D = none := fun {Fa Ha} xa => by
                refine ⟨xa.h _ _ h2D, ?_⟩
                cases z : Fa D with
                | none => rfl
                | some o =>
                  rcases xa.n D o z with u | u
                  · rw [hF2D] at u; cases u
                  · rw [h2D] at u; cases u
              cases k with
              | false =>
                have x24 := x3.trans x4
                obtain ⟨k1, k2⟩ := keep x24
                exact ⟨F4, acc, accd, rest, G2.grow x24.f x24.h G4.sub x24.n, x2.trans x24, k1, k2, reps_mono x24.f _ _ r2, q2, e2, by omega⟩
              | true =>
                have q2 : ((val (f ρ1)).bind fun y => (dCompL set p f ρ (ds.drop (i + 1))).map (y :: ·)) = some rest := q2
                cases qf : val (f ρ1) with
                | none => rw [qf] at q2; cases q2
                | some y =>
                  rw [qf] at q2
                  have q2 : (dCompL set p f ρ (ds.drop (i + 1))).map (y :: ·) = some rest := q2
                  cases qr : dCompL set p f ρ (ds.drop (i + 1)) with
                  | none => rw [qr] at q2; cases q2
                  | some rest' =>
                    rw [qr] at q2
                    cases q2
                    refine ⟨F4, ρ1, G4, ?_⟩
                    rw [val_eq qf]
                    intro yv F5 H5 G5 x5 r5
                    have x25 := x3.trans (x4.trans x5)
                    obtain ⟨k1, k2⟩ := keep x25
                    have G25 := G2.grow x25.f x25.h G5.sub x25.n
                    refine ⟨acc, k1, by rw [sizeLine_eq]; omega, F5, acc ++ [yv], accd ++ [y], rest', G25.writeN k1 k2 hBD (G1.apartNew hD), ?_, upd_same, k2, reps_append (reps_mono x25.f _ _ r2) (reps_cons r5 reps_nil), rfl, by rw [← e2]; simp, by simp; omega⟩
                    have x15 := x2.trans x25
                    exact ⟨x15.f, fun z o hz => by rw [upd_ne (ne_of_none hz hD)]; exact x15.h _ _ hz, x15.n⟩
  · rw [if_neg cl] at P1; exact P1.elim
theorem v_lc {elt tg iter : Expr} {ifs : List Expr} {scope : Scope} {own : List (Str × Nat)} {it : List Dt → R (List Dt)} {set : Dt → List Dt → Option (List Dt)} (hc : X.calm = true) (hN : X.N.Nodup) (hi : VI X g W B O tg iter it) (ok : BlkOk X.N X.env.scope scope own)
    (hg : ∀ (s : Shared) (H : Hp) (C : Addr) (cl : List (Str × Addr)) (fp : List Addr), VG (X.blk s H scope (compEnvC scope cl C X.env) fp) g B (wipeO O (own.map (·.2))) O1 (own.map (·.2)) tg set) (ht : ∀ (s : Shared) (H : Hp) (C : Addr) (cl : List (Str × Addr)) (fp : List Addr), VTs (X.blk s H scope (compEnvC scope cl C X.env) fp) g W0 B O1 ifs p)
    (he : ∀ (s : Shared) (H : Hp) (C : Addr) (cl : List (Str × Addr)) (fp : List Addr), VE (X.blk s H scope (compEnvC scope cl C X.env) fp) g W0 B O1 .fz elt f) (hs : ∀ x, foldedSetIterable iter X.env x = pure x := by intro _; rfl) :
    VE X g W B O .own (.ListComp elt [⟨tg, iter, ifs, 0⟩] scope pos) (dComp it set p f) := pe_imp (pe_lc (own := own) (g := tG X.K g B (wipeO O (own.map fun q : Str × Nat => q.2)) O1 (own.map fun q : Str × Nat => q.2) set) (tt := tT X.K g W0 B O1 p) (te := tE X.K g W0 B O1 .fz f) hc hN hi ok hg ht he hs) fun σ H Q P => lc_core' σ H Q P
theorem vs_setLc (i : Nat) {y : Str} {py spos : Pos} {elt tg iter : Expr} {ifs : List Expr} {scope : Scope} {own : List (Str × Nat)} {it : List Dt → R (List Dt)} {set : Dt → List Dt → Option (List Dt)} (hc : X.calm = true) (hN : X.N.Nodup)
    (hi : VI X g W B O tg iter it) (ok : BlkOk X.N X.env.scope scope own)
    (hg : ∀ (s : Shared) (H : Hp) (C : Addr) (cl : List (Str × Addr)) (fp : List Addr), VG (X.blk s H scope (compEnvC scope cl C X.env) fp) g B (wipeO O (own.map (·.2))) O1 (own.map (·.2)) tg set) (ht : ∀ (s : Shared) (H : Hp) (C : Addr) (cl : List (Str × Addr)) (fp : List Addr), VTs (X.blk s H scope (compEnvC scope cl C X.env) fp) g W0 B O1 ifs p)
    (he : ∀ (s : Shared) (H : Hp) (C : Addr) (cl : List (Str × Addr)) (fp : List Addr), VE (X.blk s H scope (compEnvC scope cl C X.env) fp) g W0 B O1 .fz elt f)
    (hsw : swapsWith (.ListComp elt [⟨tg, iter, ifs, 0⟩] scope pos) (some (.Name y py)) spos.line X.env = pure true)
    (hy : X.N[i]? = some y := by rfl) (hyl : X.env.scope.names.lookup y = some .local := by rfl) (hs : ∀ x, foldedSetIterable iter X.env x = pure x := by intro _; rfl) :
    VS X g W B rk O (O.set i .own) (.Assign [.Name y py] (.ListComp elt [⟨tg, iter, ifs, 0⟩] scope pos) spos) (dSet i (dComp it set p f)) := ps_imp (ps_setLc (own := own) (g := tG X.K g B (wipeO O (own.map fun q : Str × Nat => q.2)) O1 (own.map fun q : Str × Nat => q.2) set) (tt := tT X.K g W0 B O1 p) (te := tE X.K g W0 B O1 .fz f) hc hN hy hyl hsw hi ok hg ht he hs) fun D σ H ⟨F, ρ, G, P⟩ => by
  refine lc_core' σ H _ ⟨F, ρ, G, PostX.mono (PostX.bind P) (fun _ z => erW z) fun d _ P1 v F1 H1 G1 x1 r1 => ?_⟩
  exact P1 F1 _ H1 (G1.setO i r1.1 r1.2.1) x1.f
end
end VL

set_option Elab.async false
set_option linter.all false
set_option maxRecDepth 100000
set_option maxHeartbeats 4000000
namespace VL
open PySem PySem.Spec PyProof.Rows L2
section
variable {X : Cx} {g : Cfg} {W : WX} {B : Base} {O O1 O2 O' : List SK} {pos p0 apos : Pos} {kd : Kd} {rk : RK} {a b c e : Expr} {es : List Expr} {f f1 f2 f3 : List Dt → R Dt} {fs : List Dt → R (List Dt)} {p p1 p2 : List Dt → R Bool} {s s1 s2 : List Dt → R Fl} {st : Stmt} {rest : List Stmt}
theorem aNil_len' : ∀ (ρ ds : List Dt), aNil ρ = some (.ok ds) → ds.length = 0 := fun _ _ e => aNil_len e
theorem c_in1 {k0 : Nat} (hr : Room k0 X.A) : COp X g W B O .In dIn := c_in hr (by have := hr.un; omega)
theorem c_notin1 {k0 : Nat} (hr : Room k0 X.A) : COp X g W B O .NotIn dNotIn := c_notin hr (by have := hr.un; omega)
def iLst (f : List Dt → R Dt) : List Dt → R (List Dt) := iOf fun ρ => rbind (f ρ) fun d => match d with | .lst l => rok (.lst l) | _ => none
def iTup (f : List Dt → R Dt) : List Dt → R (List Dt) := iOf fun ρ => rbind (f ρ) fun d => match d with | .tup l => rok (.tup l) | _ => none
/-! constants of the text's top -/
theorem v_globI {x : Str} {i : Int} (h : ∃ t, X.mg x = some (.int i t)) (hg : Gl X x := by rfl) (hd : (x == ("__debug__" : Str)) = false := by decide) : VE X g W B O .fz (.Name x pos) (dC (.int i)) := by
  obtain ⟨t, h⟩ := h
  exact v_glob hg h (v := .int i) ⟨t, rfl⟩ (fun F => rep_int) hd
theorem v_globS {x : Str} {i : Str} (h : ∃ t, X.mg x = some (.str i t)) (hg : Gl X x := by rfl) (hd : (x == ("__debug__" : Str)) = false := by decide) : VE X g W B O .fz (.Name x pos) (dC (.str i)) := by
  obtain ⟨t, h⟩ := h
  exact v_glob hg h (v := .str i) ⟨t, rfl⟩ (fun F => rep_str) hd
/-- a tuple of texts -/
def ConstT (K : PySem.W.Frag) (mg : Str → Option Value) (x : Str) (ss : List Str) : Prop := ∃ a o its n, mg x = some (.ref a) ∧ K.lookup a = some o ∧ o.cls = .type "tuple" ∧ o.dict = none ∧ o.data = .seq its n ∧ its.size ≤ sizeLine ∧ Vals (ss.map V.str) its.toList
theorem reps_strs {K : PySem.W.Frag} {F : Hp} : ∀ ss : List Str, Reps K g F (ss.map Dt.str) (ss.map V.str)
  | [] => reps_nil
  | s :: ss => reps_cons rep_str (reps_strs ss)
theorem v_globT {x : Str} {ss : List Str} (h : ConstT X.K X.mg x ss) (hg : Gl X x := by rfl) (hd : (x == ("__debug__" : Str)) = false := by decide) : VE X g W B O .fz (.Name x pos) (dC (.tup (ss.map Dt.str))) := by
  obtain ⟨a, o, its, n, h1, h2, h3, _, h4, h5, h6⟩ := h
  refine v_glob hg h1 (v := .ref a) rfl (fun F => ?_) hd
  rw [Rep]
  exact ⟨a, _, rfl, .inr ⟨o, its, n, h2, h3, h4, h5, h6⟩, reps_strs ss⟩
/-! exceptions' classes -/
structure ExcF (K : PySem.W.Frag) (mg : Str → Option Value) (x : Str) (C : Addr) : Prop where
  q : PySem.W.excIn K C [.type "ValueError", .type "Exception", .type "BaseException", .type "object"] "ValueError.__new__" = true
  gC : mg x = some (.ref C)
  kC : PySem.W.keepIn K (.ref C) = true
  sb : PySem.W.subIn K (.ref C) (.type "BaseException") = some true
  ty : PySem.W.typeIn K (.ref C) = some (.type "type")
theorem vs_raiseF (c : Nat) {x m : Str} {j : Nat} {p p2 : Pos} (tk : Takes X W) (h : ExcF X.K X.mg x (g.cA c)) (hc : X.calm = true := by rfl) (hg : Gl X x := by rfl)
    (hdb : (x == ("__debug__" : Str)) = false := by decide) : VS X g W B rk O O' (.Raise (some (.Call (.Name x p) [.Constant (.str m) j p2] [] pos)) none p0) (dRaise c) := vs_raise c hc tk h.q h.gC h.kC (raises_own h.sb h.ty) hg hdb

/-! ### texts, places -/
def toStrs : List Dt → Option (List Str)
  | [] => some []
  | .str i :: ds => (toStrs ds).map (i :: ·)
  | _ => none
theorem toStrs_eq : ∀ {l : List Dt} {ns : List Str}, toStrs l = some ns → l = ns.map Dt.str
  | [], ns, h => by cases h; rfl
  | d :: ds, ns, h => by
    cases d <;> first | cases h | skip
    rename_i i
    have h : (toStrs ds).map (i :: ·) = some ns := h
    cases q : toStrs ds with
    | none => rw [q] at h; cases h
    | some m => rw [q] at h; cases h; rw [List.map_cons, ← toStrs_eq q]
@[simp] theorem toStrs_map (ns : List Str) : toStrs (ns.map Dt.str) = some ns := by
  induction ns with
  | nil => rfl
  | cons n ns ih => show (toStrs (ns.map Dt.str)).map (n :: ·) = _; rw [ih]; rfl
theorem reps_strs' {K : PySem.W.Frag} {H : Hp} : ∀ {ns : List Str} {vs : List V}, Reps K g H (ns.map Dt.str) vs → vs = ns.map V.str
  | [], vs, h => by rw [List.map_nil, Reps] at h; exact h
  | n :: ns, vs, h => by
    rw [List.map_cons, Reps] at h
    obtain ⟨v, r, rfl, h1, h2⟩ := h
    rw [Rep] at h1
    rw [h1, reps_strs' h2]; rfl
def isStr : Dt → R Str
  | .str z => rok z
  | _ => none
def isLst : Dt → R (List Dt)
  | .lst z => rok z
  | _ => none
/-- x.m(y), x a text; a list -/
def dM (k : Str → Dt → R Dt) (f1 f2 : List Dt → R Dt) : List Dt → R Dt := fun ρ => rbind (f1 ρ) fun d => rbind (isStr d) fun z => rbind (f2 ρ) fun b => k z b
def dML (k : List Dt → Dt → R Dt) (f1 f2 : List Dt → R Dt) : List Dt → R Dt := fun ρ => rbind (f1 ρ) fun d => rbind (isLst d) fun z => rbind (f2 ρ) fun b => k z b
theorem dM_core {r : V → List V → Hp → VK → Prop} {k : Str → Dt → R Dt} (ok : ∀ F ρ σ H z d v Q, Good X.K g B O F ρ σ H → RepC X.K g F H d v → Post X.K g W B O .fz (k z d) F ρ σ H Q → r (.str z) [v] H Q) (σ : St) (H : Hp) (Q : VK) (P : tE X.K g W B O .fz (dM k f1 f2) σ H Q) :
    tM1 r (tE X.K g W B O .ct f1) (tE X.K g W B O .ct f2) σ H Q := by
  obtain ⟨F, ρ, G, P⟩ := P
  refine tE_then G P fun d v F1 H1 e1 G1 x1 r1 P1 => ?_
  cases d <;> first | exact False.elim P1 | skip
  rename_i z
  have e := ct_str r1
  subst e
  refine ⟨⟨z, rfl⟩, tE_then (k := k z) G1 P1 fun d2 v2 F2 H2 e2 G2 x2 r2 P2 => ?_⟩
  exact ok F2 ρ σ H2 z d2 v2 Q G2 r2 (post_at (x1.trans x2) P2)
/-- ''.join(xs) -/
def mJoin (a : Str) : Dt → R Dt
  | .lst l => match toStrs l with
    | some ys => if (ys.map (·.length)).sum + ys.length * a.length ≤ 16777216 then rok (.str (Txt.join a ys)) else none
    | none => none
  | _ => none
theorem mJoin_inv {a : Str} {l : Dt} {er : Nat → Prop} {ok : Dt → Prop} (P : PostX er (mJoin a l) ok) : ∃ ys, l = .lst (ys.map Dt.str) ∧ (ys.map (·.length)).sum + ys.length * a.length ≤ 16777216 ∧ mJoin a l = rok (.str (Txt.join a ys)) := by
  cases l with
  | lst l =>
    cases e : toStrs l with
    | none => simp only [mJoin, e] at P; exact P.elim
    | some ys =>
      simp only [mJoin, e] at P ⊢
      split at P
      · rename_i c
        exact ⟨ys, by rw [toStrs_eq e], c, if_pos c⟩
      · exact P.elim
  | _ => exact P.elim
theorem v_join (ha : VE X g W B O .ct a f1) (hb : VE X g W B O .ct b f2) (hs : starEach [b] X.env = [(false, eval b X.env)] := by rfl) (hbase : attributeBase a "join" X.env (eval a X.env) = eval a X.env := by rfl) (hline : (apos.endLine == pos.line) = true := by rfl) :
    VE X g W B O .fz (.Call (.Attribute a "join" apos) [b] [] pos) (dM mJoin f1 f2) := pe_imp (pe_join ha hb hs hbase hline) fun σ H Q P => dM_core (fun F ρ σ H z d v Q G r P => by
  obtain ⟨ys, rfl, c, e⟩ := mJoin_inv P
  rw [e] at P
  obtain ⟨q, vs, rfl, h1, h2⟩ := r
  exact ⟨z, q, ys, rfl, rfl, .inl (SqL.of (by rw [← reps_strs' h2]; exact h1)), c, post_ok G P ok_str⟩) σ H Q P
theorem dML_core {r : V → List V → Hp → VK → Prop} {k : List Dt → Dt → R Dt} (ok : ∀ F ρ σ H l d x v Q, Good X.K g B O F ρ σ H → RepC X.K g F H (.lst l) x → RepC X.K g F H d v → Post X.K g W B O .fz (k l d) F ρ σ H Q → r x [v] H Q) (σ : St) (H : Hp) (Q : VK) (P : tE X.K g W B O .fz (dML k f1 f2) σ H Q) :
    tBM X.K "list" r (tE X.K g W B O .ct f1) (tCons (tE X.K g W B O .ct f2) tNil) σ H Q := by
  obtain ⟨F, ρ, G, P⟩ := P
  refine tE_then G P fun d v F1 H1 e1 G1 x1 r1 P1 => ?_
  cases d <;> first | exact False.elim P1 | skip
  rename_i l
  have r1' : RepC X.K g F1 H1 (.lst l) v := r1
  obtain ⟨q, vs, rfl, h1, h2⟩ := r1
  refine ⟨.inl ⟨rfl, _, SqL.of h1⟩, tE_then (k := k l) G1 P1 fun d2 v2 F2 H2 e2 G2 x2 r2 P2 => ?_⟩
  exact ok F2 ρ σ H2 l d2 _ v2 Q G2 (repC_mono x2.f x2.h r1') r2 (post_at (x1.trans x2) P2)
def pyEq (b : Dt) (z : Dt) : Bool := PyData.eqv (toPy z) (toPy b)
def mIndex (l : List Dt) (b : Dt) : R Dt := if (okN 8 (.lst l) && okN 8 b && decide (l.findIdx (pyEq b) < l.length)) = true then rok (.int (l.findIdx (pyEq b))) else none
theorem toPys_get (l : List Dt) (i : Nat) : (toPys l)[i]? = (l[i]?).map toPy := by rw [toPys_map, List.getElem?_map]
theorem v_index {k0 : Nat} (hr : Room k0 X.A) (ha : VE X g W B O .ct a f1) (hb : VE X g W B O .ct b f2)
    (hbase : attributeBase a "index" X.env (eval a X.env) = eval a X.env := by rfl)
    (hfew : ((backTo pos (starEach [b] X.env)).all (fun x => !x.1) && (backToKw pos (keywordEach [] X.env)).all (fun x => x.1.isSome)
      && decide ([b].length + ([] : List Keyword).length + (if ([] : List Keyword).isEmpty then 0 else 1) < 30)) = true := by rfl)
    (hline : (apos.endLine == pos.line) = true := by rfl) (hs : starEach [b] X.env = (false, eval b X.env) :: starEach [] X.env := by rfl) (hplain : (backTo pos (starEach [] X.env)).any (·.1) = false := by rfl) :
    VE X g W B O .fz (.Call (.Attribute a "index" apos) [b] [] pos) (dML mIndex f1 f2) := pe_imp (pe_bm PySem.F.plainAttrs_list PySem.F.slot_list_index PySem.F.type_list_index (mt_indexD (by have := hr.un; omega)) ha (pa_cons hb pa_nil hs) hbase hfew hline hs hplain) fun σ H Q P => dML_core (fun F ρ σ H l d x v Q G r r2 P => by
  unfold mIndex at P
  split at P
  · rename_i c
    simp only [Bool.and_eq_true, decide_eq_true_eq] at c
    obtain ⟨⟨c1, c2⟩, c3⟩ := c
    have h1 := rep_dp 8 _ _ c1 (repC_rep G.sub r)
    have h2 := okN_shaped c1
    obtain ⟨q, vs, rfl, h5, h6⟩ := r
    rw [toPy] at h1 h2
    refine ⟨q, v, _, _, l.findIdx (pyEq d), toPy l[l.findIdx (pyEq d)], rfl, rfl, h1, rep_dp 8 _ _ c2 (repC_rep G.sub r2), h2, okN_shaped c2, ?_, ?_, fun m z' hm hz => ?_, post_ok G P ok_int⟩
    · rw [toPys_get, List.getElem?_eq_getElem c3]; rfl
    · exact List.findIdx_getElem (p := pyEq d) (w := c3)
    · rw [toPys_get, List.getElem?_eq_getElem (by omega)] at hz
      cases hz
      have := List.not_of_lt_findIdx hm
      simpa [pyEq] using this
  · exact P.elim) σ H Q P
def rCntF (K : PySem.W.Frag) : V → List V → Hp → VK → Prop := fun x xs H Q => ∃ (p : Addr) (ns : List V) (k : V), x = .ref p ∧ xs = [k] ∧ SqL K H p ns ∧ flatV k = true ∧ ns.all flatV = true ∧ Q (.int (ns.countP (fun y => eqV y k) : Nat)) H
theorem count_eqU {x : V} : ∀ {xs : List V} {us : List Value}, Vals xs us → xs.all flatV = true → us.countP (eqU x) = xs.countP fun y => eqV y x
  | [], _, .nil, _ => rfl
  | y :: ys, _, .cons r t, f => by
    simp only [List.all_cons, Bool.and_eq_true] at f
    rw [List.countP_cons, List.countP_cons, count_eqU t f.2, eqU_of r f.1]
theorem mt_lcountF : MtR X "list.count" (rCntF X.K) := by
  intro pins s σ H x xs v us Q I rx rxs h
  obtain ⟨p, ns, k, rfl, rfl, hs, fk, fn, q⟩ := h
  cases rx
  obtain ⟨u, rfl, ru⟩ := rxs.one
  obtain ⟨its, rv, ⟨⟨cls, dd, data, sl⟩, n, ho, hc, hdn, hd⟩, hlen⟩ := I.list hs
  simp only at hc hd
  subst hc hd
  refine call_meets PySem.F.slot_list_count ⟨_, ho, rfl⟩ PySem.F.entry_list_count (PySem.F.args_list_count_2 _ _)
    (SeqAt.list_countAt p its.toArray n dd sl u (eqU k)) ⟨ho, fun y hy => mem_eqAt ru fk rv fn y (by simpa using hy), ?_⟩
  refine ⟨.int _, H, I.tok _, ⟨s.toks, ?_⟩, q⟩
  rw [← count_eqU rv fn]
def mCount (l : List Dt) (b : Dt) : R Dt := if (isFlat b && l.all isFlat) = true then rok (.int (l.countP (pyEq b) : Nat)) else none
theorem count_eqV {K : PySem.W.Frag} {F F' : Hp} {d : Dt} {v : V} (f : isFlat d = true) (h : Rep K g F d v) : ∀ {l : List Dt} {vs : List V}, l.all isFlat = true → Reps K g F' l vs → vs.all flatV = true ∧ (vs.countP fun y => eqV y v) = l.countP (pyEq d)
  | [], vs, _, r => by rw [Reps] at r; subst r; exact ⟨rfl, rfl⟩
  | z :: l, vs, k, r => by
    rw [Reps] at r
    obtain ⟨w, vr, rfl, h2, h3⟩ := r
    simp only [List.all_cons, Bool.and_eq_true] at k
    obtain ⟨i1, i2⟩ := count_eqV f h k.2 h3
    refine ⟨by rw [List.all_cons, flat_toV k.1 h2, i1]; rfl, ?_⟩
    rw [List.countP_cons, List.countP_cons, i2, flat_eqV k.1 h2 f h]
    rfl
theorem v_count {k0 : Nat} (hr : Room k0 X.A) (ha : VE X g W B O .ct a f1) (hb : VE X g W B O .ct b f2)
    (hbase : attributeBase a "count" X.env (eval a X.env) = eval a X.env := by rfl)
    (hfew : ((backTo pos (starEach [b] X.env)).all (fun x => !x.1) && (backToKw pos (keywordEach [] X.env)).all (fun x => x.1.isSome)
      && decide ([b].length + ([] : List Keyword).length + (if ([] : List Keyword).isEmpty then 0 else 1) < 30)) = true := by rfl)
    (hline : (apos.endLine == pos.line) = true := by rfl) (hs : starEach [b] X.env = (false, eval b X.env) :: starEach [] X.env := by rfl) (hplain : (backTo pos (starEach [] X.env)).any (·.1) = false := by rfl) :
    VE X g W B O .fz (.Call (.Attribute a "count" apos) [b] [] pos) (dML mCount f1 f2) := pe_imp (pe_bm PySem.F.plainAttrs_list PySem.F.slot_list_count PySem.F.type_list_count mt_lcountF ha (pa_cons hb pa_nil hs) hbase hfew hline hs hplain) fun σ H Q P => dML_core (fun F ρ σ H l d x v Q G r r2 P => by
  unfold mCount at P
  split at P
  · rename_i c
    obtain ⟨c1, c2⟩ := Bool.and_eq_true_iff.mp c
    obtain ⟨q, vs, rfl, h5, h6⟩ := r
    have h2 : Rep X.K g F d v := repC_flat c1 r2
    obtain ⟨i1, i2⟩ := count_eqV c1 h2 c2 h6
    refine ⟨q, vs, v, rfl, rfl, SqL.of h5, flat_toV c1 h2, i1, ?_⟩
    rw [i2]
    exact post_ok G P ok_int
  · exact P.elim) σ H Q P

/-- T.index(e), T a tuple of texts of the text's top -/
def kIndexT (ss : List Str) : Dt → R Dt
  | .str z => if ss.findIdx (· == z) < ss.length then rok (.int (ss.findIdx (· == z) : Nat)) else none
  | _ => none
theorem v_indexT {x : Str} {ss : List Str} {px : Pos} (h : ConstT X.K X.mg x ss) (hb : VE X g W B O .ct b f2) (hg : Gl X x := by rfl) (hd : (x == ("__debug__" : Str)) = false := by decide)
    (hbase : attributeBase (.Name x px) "index" X.env (eval (.Name x px) X.env) = eval (.Name x px) X.env := by rfl)
    (hfew : ((backTo pos (starEach [b] X.env)).all (fun x => !x.1) && (backToKw pos (keywordEach [] X.env)).all (fun x => x.1.isSome)
      && decide ([b].length + ([] : List Keyword).length + (if ([] : List Keyword).isEmpty then 0 else 1) < 30)) = true := by rfl)
    (hline : (apos.endLine == pos.line) = true := by rfl) (hs : starEach [b] X.env = (false, eval b X.env) :: starEach [] X.env := by rfl) (hplain : (backTo pos (starEach [] X.env)).any (·.1) = false := by rfl) :
    VE X g W B O .fz (.Call (.Attribute (.Name x px) "index" apos) [b] [] pos) (d1 (kIndexT ss) f2) := by
  obtain ⟨a, o, its, n, h1, h2, h3, hdn, h4, h5, h6⟩ := h
  refine pe_imp (pe_bm PySem.F.plainAttrs_tuple PySem.F.slot_tuple_index PySem.F.type_tuple_index mt_tup_index (pe_glob (v := .ref a) hg h1 rfl hd) (pa_cons hb pa_nil hs) hbase hfew hline hs hplain) fun σ H Q ⟨F, ρ, G, P⟩ => ?_
  refine ⟨.inr (.inl ⟨rfl, o, h2, h3, hdn⟩), tE_then G P fun d v F1 H1 e1 G1 x1 r1 P1 => ?_⟩
  cases d <;> first | exact False.elim P1 | skip
  rename_i z
  have e := ct_str r1
  subst e
  by_cases c : ss.findIdx (· == z) < ss.length
  · have q : kIndexT ss (.str z) = rok (.int (ss.findIdx (· == z) : Nat)) := if_pos c
    rw [q] at P1
    refine ⟨a, ss, z, ss.findIdx (· == z), rfl, rfl, .inr ⟨o, its, n, h2, h3, h4, h5, h6⟩, ?_, fun m hm e => ?_, P1 _ F1 H1 G1 x1 ok_int⟩
    · rw [List.getElem?_eq_getElem c]
      have := List.findIdx_getElem (p := (· == z)) (w := c)
      rw [eq_of_beq this]
    · have hm' : m < ss.length := by omega
      rw [List.getElem?_eq_getElem hm'] at e
      have := List.not_of_lt_findIdx hm
      cases e
      simp at this
  · have q : kIndexT ss (.str z) = none := if_neg c
    rw [q] at P1; exact P1.elim

/-! ### isinstance of a kept exception -/
/-- the classes ks may be asked -/
structure IsE (K : PySem.W.Frag) (g : Cfg) (ks : List Nat) : Prop where
  ec : ∀ k ∈ ks, ExcC K (g.cA k)
def rIsX (K : PySem.W.Frag) (g : Cfg) (ks : List Nat) : List V → Hp → VK → Prop := fun xs H Q => ∃ (q : Addr) (k : Nat) (c : V) (cv : Value) (b : Bool), xs = [.ref q, c] ∧ k ∈ ks ∧ H q = some (.ext (excAt (g.cA k) q)) ∧ (∀ u, RelV c u → u = cv) ∧ PySem.W.kitOne K (.ref (g.cA k)) cv = some b ∧ Q (.bl b) H
theorem call_isX {ks : List Nat} (hE : IsE X.K g ks) : CallR X (.builtin "isinstance") (rIsX X.K g ks) := by
  intro pins s σ H xs us Q I r h
  obtain ⟨q, k, c, cv, b, rfl, hk, hH, hcv, e, q1⟩ := h
  have Ec := hE.ec k hk
  obtain ⟨u1, u2, rfl, r1, r2⟩ := vals2 r
  cases r1
  have e2 := hcv _ r2
  subst e2
  obtain ⟨⟨o, ho, hc, hd, vs, hdat⟩, _⟩ := (show ObjOk X.prog X.w H s.heap q (.ext (excAt (g.cA k) q)) from I.hok q _ hH)
  have J : PySem.W.InstAt s.heap q o (g.cA k) none := ⟨ho, hc, by unfold PySem.W.notCls; rw [hdat] <;> rfl, by rw [hd] <;> trivial⟩
  exact PySem.W.kia_one (PySem.W.handS_kitx_exc (x := q) (ox := o) Ec.hg Ec.hk Ec.hs Ec.hd Ec.ha Ec.hn Ec.ht Ec.hm) I.kIn J e (by intro z; cases z) fun tk => ⟨.bl b, H, I.tok tk, rfl, q1⟩
def bIsE (ks : List Nat) (c : Nat) : Dt → R Dt
  | .exc k => if k ∈ ks then rok (.bl (k == c)) else none
  | _ => none
def bIsVE (ks : List Nat) : Dt → R Dt
  | .exc k => if k ∈ ks then rok (.bl true) else none
  | _ => none
theorem v_isX {ks : List Nat} {x : Str} {p1 : Pos} {cv : Value} {h : Dt → R Dt} {ans : Nat → Bool} (hE : IsE X.K g ks) (hh : ∀ d, (∃ k, d = .exc k ∧ k ∈ ks ∧ h d = rok (.bl (ans k))) ∨ h d = none) (hk : ∀ k ∈ ks, PySem.W.kitOne X.K (.ref (g.cA k)) cv = some (ans k)) (hm : X.mg "isinstance" = none) {cV : V} (hb : PE X (.Name x p1) (tC cV)) (hcv : ∀ u, RelV cV u → u = cv) (ha : VE X g W B O .fz a f) (hg : Gl X "isinstance")
    (hs1 : starEach [.Name x p1] X.env = (false, eval (.Name x p1) X.env) :: starEach [] X.env) (he : starEach [a, .Name x p1] X.env = (false, eval a X.env) :: starEach [.Name x p1] X.env) (hpl : (backTo pos (starEach [.Name x p1] X.env)).any (·.1) = false) :
    VE X g W B O .fz (.Call (.Name "isinstance" p0) [a, .Name x p1] [] pos) (d1 h f) := by
  refine pe_imp (pe_callB (x := "isinstance") (id := "isinstance") (call_isX hE) hg hm (by decide +kernel) (pa_cons ha (pa_cons hb pa_nil hs1) he) (by decide) (by decide) he hpl) fun σ H Q ⟨F, ρ, G, P⟩ => ?_
  refine tE_then G P fun d v F1 H1 e1 G1 x1 r1 P1 => ?_
  rcases hh d with ⟨k, rfl, k1, k2⟩ | k2
  · rw [k2] at P1
    have r1 : Rep X.K g F1 (.exc k) v := r1
    rw [Rep] at r1
    obtain ⟨q, rfl, hq⟩ := r1
    exact ⟨q, k, cV, cv, ans k, rfl, k1, G1.sub _ _ hq, hcv, hk k k1, P1 _ F1 H1 G1 x1 ok_bl⟩
  · rw [k2] at P1; exact P1.elim
theorem v_isE {ks : List Nat} (c : Nat) {x : Str} {p1 : Pos} (hE : IsE X.K g ks) (hk : ∀ k ∈ ks, PySem.W.kitOne X.K (.ref (g.cA k)) (.ref (g.cA c)) = some (k == c)) (hm : X.mg "isinstance" = none) (hmx : X.mg x = some (.ref (g.cA c))) (ha : VE X g W B O .fz a f) (hg : Gl X "isinstance" := by rfl) (hgx : Gl X x := by rfl) (hdx : (x == ("__debug__" : Str)) = false := by decide)
    (hs1 : starEach [.Name x p1] X.env = (false, eval (.Name x p1) X.env) :: starEach [] X.env := by rfl) (he : starEach [a, .Name x p1] X.env = (false, eval a X.env) :: starEach [.Name x p1] X.env := by rfl) (hpl : (backTo pos (starEach [.Name x p1] X.env)).any (·.1) = false := by rfl) :
    VE X g W B O .fz (.Call (.Name "isinstance" p0) [a, .Name x p1] [] pos) (d1 (bIsE ks c) f) :=
  v_isX (ans := fun k => k == c) hE (fun d => by
    cases d with
    | exc k =>
      by_cases hk : k ∈ ks
      · exact .inl ⟨k, rfl, hk, if_pos hk⟩
      · exact .inr (if_neg hk)
    | _ => exact .inr rfl) hk hm (pe_glob (v := .ref (g.cA c)) hgx hmx rfl hdx) (fun u r => r) ha hg hs1 he hpl
theorem v_isVE {ks : List Nat} {p1 : Pos} (hE : IsE X.K g ks) (hk : ∀ k ∈ ks, PySem.W.kitOne X.K (.ref (g.cA k)) (.type "ValueError") = some true) (hm : X.mg "isinstance" = none) (hmx : X.mg "ValueError" = none) (ha : VE X g W B O .fz a f) (hg : Gl X "isinstance" := by rfl) (hgx : Gl X "ValueError" := by rfl)
    (hs1 : starEach [.Name "ValueError" p1] X.env = (false, eval (.Name "ValueError" p1) X.env) :: starEach [] X.env := by rfl) (he : starEach [a, .Name "ValueError" p1] X.env = (false, eval a X.env) :: starEach [.Name "ValueError" p1] X.env := by rfl) (hpl : (backTo pos (starEach [.Name "ValueError" p1] X.env)).any (·.1) = false := by rfl) :
    VE X g W B O .fz (.Call (.Name "isinstance" p0) [a, .Name "ValueError" p1] [] pos) (d1 (bIsVE ks) f) :=
  v_isX (ans := fun _ => true) hE (fun d => by
    cases d with
    | exc k =>
      by_cases hk : k ∈ ks
      · exact .inl ⟨k, rfl, hk, if_pos hk⟩
      · exact .inr (if_neg hk)
    | _ => exact .inr rfl) hk hm (pe_bltn (v := .ty "ValueError") hgx hmx (by decide +kernel) rfl) (fun u r => r) ha hg hs1 he hpl

/-! ### try: one statement; except X as n: kept = n -/
/-- what stands of an exception from here on -/
theorem Inv.track {pins : List (Addr × Obj)} {σ : St} {H : Hp} {s : Shared} {q : Addr} {o : Obj} {φ : Heap → Prop} (I : Inv X pins σ H s) (ho : s.heap.get? q = some o) (hφ : φ s.heap) (stb : ∀ h1 h2 : Heap, φ h1 → (∀ o, h1.get? q = some o → h2.get? q = some o) → φ h2) (na : H q = none)
    (ns : X.s_0.heap.get? q = none) (nL : q ≠ X.env.locals) (nC : ∀ x c, X.env.cells.lookup x = some c → c ≠ q) (np : ∀ p ∈ X.pn ++ pins, p.1 ≠ q) : Inv X pins σ (upd H q (.ext φ)) s := by
  have ne : ∀ b u, H b = some u → b ≠ q := fun b u e z => by rw [z, na] at e; cases e
  refine ⟨I.ok, I.os, I.bare, ⟨I.base.keep, I.base.slot, fun b u e n hx => ?_, I.base.there, fun b xs e => ?_, fun b u xs e => ?_, fun b ps e => ?_⟩, I.loc, I.cell, ?_, fun x c e => ?_, fun p hp => ?_, fun b u e => ?_, I.len⟩
  · have : b ≠ q := fun z => by rw [z, ns] at e; cases e
    rw [upd_ne this]; exact I.base.free b u e n hx
  · have := I.base.tups b xs e
    rw [upd_ne (ne b _ this)]; exact this
  · have := I.base.frzs b u xs e
    rw [upd_ne (ne b _ this)]; exact this
  · obtain ⟨m, this⟩ := I.base.tbls b ps e
    exact ⟨m, by rw [upd_ne (ne b _ this)]; exact this⟩
  · rw [upd_ne (Ne.symm nL)]; exact I.free
  · rw [upd_ne (nC x c e)]; exact I.freeC x c e
  · obtain ⟨a1, a2, a3, a4, a5⟩ := I.pin p hp
    exact ⟨a1, by rw [upd_ne (np p hp)]; exact a2, a3, a4, a5⟩
  · by_cases hb : b = q
    · subst hb
      rw [upd_same] at e
      cases e
      exact ⟨hφ, ⟨o, ho⟩, stb⟩
    · rw [upd_ne hb] at e
      exact (I.hok b u e).stay (fun _ _ _ z => z) (fun c z => by rw [upd_ne (ne c _ z)]; exact z) fun c xs z => by rw [upd_ne (ne c _ z)]; exact z
/-- of the class cls, with the dict d -/
def excV (cls : Value) (d : Option Addr) (a : Addr) : Heap → Prop := fun h => ∃ o, h.get? a = some o ∧ o.cls = cls ∧ o.dict = d ∧ ∃ vs, o.data = .fields vs
theorem excV_stays {cls : Value} {d : Option Addr} {q : Addr} : ∀ h1 h2 : Heap, excV cls d q h1 → (∀ o, h1.get? q = some o → h2.get? q = some o) → excV cls d q h2 := fun _ _ ⟨o, h1, h2⟩ k => ⟨o, k o h1, h2⟩
def wKeep (K : PySem.W.Frag) (c : Value) (i : Nat) (ts : Addr → TS) (D : Ends) : WX := fun cls d σ H =>
  PySem.W.exmOne K cls c = some true ∧ ∀ a, H a = none → ts a { nx := fun σ' H' => D.nx (σ'.set i none) H', rt := D.rt, bk := fun σ' H' => D.bk (σ'.set i none) H', ct := fun σ' H' => D.ct (σ'.set i none) H' } (σ.set i (some (.ref a))) (upd H a (.ext (excV cls d a)))
theorem ps_try_keep {x n : Str} {cv : Value} {i : Nat} {body suite : List Stmt} {b₀ : Stmt} {npp pos' : Pos} {tb : WX → TS} {ts : Addr → TS} (hex : X.ex = []) (hs : X.stack = X.env :: X.outer) (hf : X.env.frame = some X.env.locals) (hN : X.N.Nodup) (hi : X.N[i]? = some n) (hln : X.env.kindOf n = some .local) (hc : Names X x cv)
    (hb : ∀ (W : WX) (pn : List (Addr × Obj)) (xe : Value → Shared → Prop), Takes (X.tr pn xe) W → PassesOwn (model X.prog X.w) X.A X.env xe → PSs (X.tr pn xe) body (tb W))
    (hsu : ∀ (a : Addr) (pn : List (Addr × Obj)), PSs (X.suite a pn) (b₀ :: suite) (ts a)) :
    PS X (.Try body [.ExceptHandler (some (.Name x npp)) (some n) (b₀ :: suite) pos'] [] [] pos) (fun D σ H => tb (wKeep X.K cv i ts D) D σ H) := by
  refine ⟨fun pins s σ H D I h => ?_⟩
  have ok := I.ok
  have hfr : X.A.frames = some (X.env :: X.outer) := by rw [ok.frames, hs]
  have hloc : Loc X.env.scope n := .inl hln
  refine wpAny_Try_except ?_
  refine wpAny_mono ((hb (wKeep X.K cv i ts D) (X.pn ++ pins) (fun e s₁ => wpAny (model X.prog X.w) X.A (noteFrame e X.env) (fun _ s₂ => wpAny (model X.prog X.w) X.A (setFlight e none) (fun _ s₃ =>
    wpAny (model X.prog X.w) X.A (handleBy e X.env [.ExceptHandler (some (.Name x npp)) (some n) (b₀ :: suite) pos']) (SP X pins D) X.xe s₃) X.xe s₂) X.xe s₁) (fun u s' xx => ?_) PassesOwn.looking).run [] s σ H D (I.toTry _) h) (fun f s1 hsp => ?_) (fun e s1 he => he)
  · obtain ⟨a, B, sI, pins', σ', H', cls, d, rfl, J', nb, up, sky, na, os, ag, hb1, hyes⟩ := xx
    have J : Inv X pins σ' H' sI := J'.ofTry ok
    have sky' : Sky B (X.env :: X.outer) a (Zc cls d) X.env.locals s'.heap := by rw [← hs]; exact sky
    show wpAny (model X.prog X.w) X.A (noteFrame (.ref a) X.env) _ _ _
    refine Sky.land Zc.steady hfr hf sky' fun h3 fl3 up3 => ?_
    have J3 : Inv X pins σ' H' { s' with heap := h3 } := J.landed nb fl3.1 (up.trans up3) os ag
    obtain ⟨oe3, vs3, he3, hz3, hd3⟩ := fl3.there
    have nB : B.get? a = none := fl3.2.1
    have nfr : a ∉ frs (X.env :: X.outer) := fun hm => by
      obtain ⟨_, o', e', hnf⟩ := fl3.2.2.1.mem hm
      rw [he3] at e'; cases e'
      exact hnf _ hd3
    have nL : a ≠ X.env.locals := fun z => nfr (List.mem_filterMap.mpr ⟨X.env, List.mem_cons_self, by rw [hf, z]⟩)
    have nF : a ∉ X.fs := fun hm => by
      obtain ⟨e, he, q⟩ := List.mem_filterMap.mp hm
      exact nfr (List.mem_filterMap.mpr ⟨e, List.mem_cons_of_mem _ he, q⟩)
    have nI : sI.heap.get? a = none := by
      cases q : sI.heap.get? a with
      | none => rfl
      | some o =>
        have := nb a o q (by rw [hs]; exact nfr)
        rw [nB] at this; cases this
    have n0 : X.s_0.heap.get? a = none := by
      cases q : X.s_0.heap.get? a with
      | none => rfl
      | some o =>
        obtain ⟨o', this⟩ := J.base.there a o q (by rw [hex]; simp)
        rw [nI] at this; cases this
    have np : ∀ p ∈ X.pn ++ pins, p.1 ≠ a := fun p hp z => by
      have := (J.pin p hp).1
      rw [z, nI] at this; cases this
    have S3 := J3.suite he3 hd3 na nL nF
    refine wpAny_handleBy_cons (codeAny_handlers_test ?_) (by intro q; cases q)
    have LT : PySem.W.Looks (model X.prog X.w) h3 (typeOf (.ref a)) cls := fun A Q E s k q => wpAny_typeOf_ref (k _ _ he3) (by rw [hz3.1]; exact q)
    have LM := PySem.W.exm_one (M := model X.prog X.w) (J3.kIn) LT hb1
    have test : ∀ {Q : Value → Shared → Prop} {E : Value → Shared → Prop}, Q cv { s' with heap := h3 } → wpAny (model X.prog X.w) (X.A.mark (some (.ref a))) (eval (.Name x npp) X.env) Q E { s' with heap := h3 } := fun {Q E} q => by
      obtain ⟨hg, hdbg, hm | ⟨hm, hv, hnn⟩⟩ := hc
      · exact ld_glob (X := X.suite a ((a, oe3) :: (X.pn ++ pins))) S3 hg hm q hdbg
      · exact ld_blt (X := X.suite a ((a, oe3) :: (X.pn ++ pins))) S3 hg hm hv q hnn hdbg
    refine test (LM.here ?_)
    refine codeAny_handlers_suite_as ?_
    refine HandSPX.lands_againZ fl3 fun h4 fl4 up4 => ?_
    have J4 : Inv X pins σ' H' { s' with heap := h4 } := J.landed nb fl4.1 ((up.trans up3).trans up4) os ag
    obtain ⟨oe4, vs4, he4, hz4, hd4⟩ := fl4.there
    have J5 : Inv X pins σ' (upd H' a (.ext (excV cls d a))) { s' with heap := h4 } := Inv.track J4 he4 ⟨oe4, he4, hz4.1, hz4.2, vs4, hd4⟩ excV_stays na n0 nL (fun y c e z => by
      obtain ⟨v, o, ho, hdd⟩ := J4.cell y c e
      rw [z] at ho
      have ho : h4.get? a = some o := ho
      rw [he4] at ho; cases ho
      rw [hd4] at hdd; cases hdd) np
    have S4 : Inv (X.suite a (X.pn ++ pins)) [] σ' (upd H' a (.ext (excV cls d a))) { s' with heap := h4 } :=
      ⟨J5.ok.suite _ _, J5.os, J5.bare, J5.base, J5.loc, J5.cell, J5.free, J5.freeC, fun p hp => J5.pin p (by rw [List.append_nil] at hp; exact hp), J5.hok, J5.len⟩
    refine store_ok (X := X.suite a (X.pn ++ pins)) (v := .ref a) S4 hN hi hloc rfl (fun s5 S5 => ?_) (.inr hln)
    refine wpAny_mono ((hsu a (X.pn ++ pins)).run [] s5 _ _ _ S5 (hyes a na)) (fun f s6 hsp => ?_) (fun _ _ z => False.elim z)
    have end_ : ∀ {σ6 : St} {H6 : Hp} {Q : Shared → Prop}, Inv (X.suite a (X.pn ++ pins)) [] σ6 H6 s6 → (∀ s7, Inv X pins (σ6.set i none) H6 s7 → Q s7) →
        wpAny (model X.prog X.w) X.A (do bindName X.env n .none; unbindBehindTheSuite X.env n pos') (fun _ s7 => Q s7) X.xe s6 := fun {σ6 H6 Q} S6 hq =>
      gone_ok (X := X) (pins := pins) ⟨ok, S6.os, S6.bare, S6.base, S6.loc, S6.cell, S6.free, S6.freeC, fun p hp => S6.pin p (List.mem_append_left _ hp), S6.hok, S6.len⟩ hN hi hln hq
    cases f with
    | next =>
      obtain ⟨σ6, H6, S6, q6⟩ := hsp
      exact end_ S6 fun s7 J7 => ⟨_, _, J7, q6⟩
    | brk =>
      obtain ⟨σ6, H6, S6, q6⟩ := hsp
      exact end_ S6 fun s7 J7 => ⟨_, _, J7, q6⟩
    | cont =>
      obtain ⟨σ6, H6, S6, q6⟩ := hsp
      exact end_ S6 fun s7 J7 => ⟨_, _, J7, q6⟩
    | ret u =>
      obtain ⟨v6, σ6, H6, S6, r6, q6⟩ := hsp
      exact end_ S6 fun s7 J7 => ⟨_, _, _, J7, r6, q6⟩
  · cases f with
    | next =>
      obtain ⟨σ', H', J', q⟩ := hsp
      exact wpAny_execs_nil ⟨σ', H', J'.ofTry ok, q⟩
    | brk =>
      obtain ⟨σ', H', J', q⟩ := hsp
      exact ⟨σ', H', J'.ofTry ok, q⟩
    | cont =>
      obtain ⟨σ', H', J', q⟩ := hsp
      exact ⟨σ', H', J'.ofTry ok, q⟩
    | ret u =>
      obtain ⟨v, σ', H', J', r, q⟩ := hsp
      exact ⟨v, σ', H', J'.ofTry ok, r, q⟩
/-! one statement whose raise leaves the slots as they stand -/
def tSe (K : PySem.W.Frag) (g : Cfg) (W : WX) (B : Base) (rk : RK) (O O' : List SK) (f : List Dt → R Fl) : TS := fun D σ H => ∃ F ρ, Good K g B O F ρ σ H ∧ PostX (ErE K g W B O F ρ σ) (f ρ) fun fl => match fl with
  | .nx ρ' => ∀ F' σ' H', Good K g B O' F' ρ' σ' H' → Same F F' → D.nx σ' H'
  | .rt d => ∀ v F' H', RetG B F' H' → RetOk K g B F' H' rk d v → D.rt v H'
def VSse (X : Cx) (g : Cfg) (W : WX) (B : Base) (rk : RK) (O O' : List SK) (st : List Stmt) (f : List Dt → R Fl) : Prop := PSs X st (tSe X.K g W B rk O O' f)
def VSe (X : Cx) (g : Cfg) (W : WX) (B : Base) (rk : RK) (O O' : List SK) (st : Stmt) (f : List Dt → R Fl) : Prop := PS X st (tSe X.K g W B rk O O' f)
theorem vsse_one (h : VSe X g W B rk O O1 st s) : VSse X g W B rk O O1 [st] s := pss_one h
theorem vsse_w (h : VSse X g W B rk O O1 rest s) (w : wkAll O1 O2 = true := by rfl) : VSse X g W B rk O O2 rest s := pss_imp h fun D σ H ⟨F, ρ, G, P⟩ => ⟨F, ρ, G, PostX.mono P (fun _ z => z) fun fl e q => by
  cases fl with
  | nx ρ' =>
    intro F' σ' H' G' s'
    obtain ⟨F1, G1, sm⟩ := G'.weak w
    exact q F1 σ' H' G1 (s'.trans sm)
  | rt d => exact q⟩
theorem vse_set (i : Nat) {x : Str} {pos' : Pos} (hN : X.N.Nodup) (h : VE X g W B O .fz e f) (hi : X.N[i]? = some x := by rfl) (hx : Loc X.env.scope x := by first | exact Or.inl rfl | exact Or.inr rfl) (hs : swapsWith e (some (.Name x pos')) pos.line X.env = pure false := by rfl)
    (hf : X.fn x = true ∨ X.env.scope.names.lookup x = some .local := by first | exact .inl rfl | exact .inr rfl) : VSe X g W B rk O (O.set i .fz) (.Assign [.Name x pos'] e pos) (dSet i f) := ps_imp (ps_set hN hi hx h hs hf) fun D σ H ⟨F, ρ, G, P⟩ =>
  tE_then G P fun d v F1 H1 e1 G1 x1 r1 P1 => P1 F1 _ H1 (G1.set i r1) x1.f
theorem vse_setO (i : Nat) {x : Str} {pos' : Pos} (hN : X.N.Nodup) (h : VE X g W B O .own e f) (hi : X.N[i]? = some x := by rfl) (hx : Loc X.env.scope x := by first | exact Or.inl rfl | exact Or.inr rfl) (hs : swapsWith e (some (.Name x pos')) pos.line X.env = pure false := by rfl)
    (hf : X.fn x = true ∨ X.env.scope.names.lookup x = some .local := by first | exact .inl rfl | exact .inr rfl) : VSe X g W B rk O (O.set i .own) (.Assign [.Name x pos'] e pos) (dSet i f) := ps_imp (ps_set hN hi hx h hs hf) fun D σ H ⟨F, ρ, G, P⟩ =>
  tE_then G P fun d v F1 H1 e1 G1 x1 r1 P1 => P1 F1 _ H1 (G1.setO i r1.1 r1.2.1) x1.f
theorem vse_expr (h : VE X g W B O kd e f) (hs : swapsWith e none pos.line X.env = pure false := by rfl) : VSe X g W B rk O O (.Expr e pos) (dDrop f) := ps_imp (ps_expr h hs) fun D σ H ⟨F, ρ, G, P⟩ =>
  tE_then G P fun d v F1 H1 e1 G1 x1 r1 P1 => P1 F1 σ H1 G1 x1.f
theorem vse_if {b1 b2 : List Stmt} (hc : VT X g W B O c p) (ha : VSse X g W B rk O O1 b1 s1) (hb : VSse X g W B rk O O1 b2 s2) : VSe X g W B rk O O1 (.If c b1 b2 pos) (dIfS p s1 s2) := ps_imp (ps_if hc ha hb) fun D σ H ⟨F, ρ, G, P⟩ =>
  tT_then G P fun k F1 H1 e1 G1 x1 P1 => by
    have at_ : ∀ {r : R Fl}, PostX (ErE X.K g W B O F ρ σ) r (fun fl => match fl with
        | .nx ρ' => ∀ F' σ' H', Good X.K g B O1 F' ρ' σ' H' → Same F F' → D.nx σ' H'
        | .rt d => ∀ v F' H', RetG B F' H' → RetOk X.K g B F' H' rk d v → D.rt v H') → PostX (ErE X.K g W B O F1 ρ σ) r (fun fl => match fl with
        | .nx ρ' => ∀ F' σ' H', Good X.K g B O1 F' ρ' σ' H' → Same F1 F' → D.nx σ' H'
        | .rt d => ∀ v F' H', RetG B F' H' → RetOk X.K g B F' H' rk d v → D.rt v H') := fun {r} h => PostX.mono h (fun _ z => erM x1.f z) fun fl _ q => by
      cases fl with
      | nx ρ' => exact fun F' σ' H' G' s' => q F' σ' H' G' (x1.f.trans s')
      | rt d => exact q
    cases k with
    | true => exact ⟨F1, ρ, G1, at_ P1⟩
    | false => exact ⟨F1, ρ, G1, at_ P1⟩
def dTry (ks : List Nat) (j : Nat) (s : List Dt → R Fl) : List Dt → R Fl := fun ρ => match s ρ with
  | some (.error k) => if k ∈ ks then rok (.nx (ρ.set j (.exc k))) else none
  | r => r
theorem set_around {α : Type} {l : List α} {i j : Nat} {x y z : α} (h : i ≠ j) : ((l.set i x).set j y).set i z = (l.set j y).set i z := by
  rw [List.set_comm _ _ h, List.set_set]
theorem vs_try {ks : List Nat} (c i j : Nat) {x n y : Str} {npp py pos' p3 p4 : Pos} {body : List Stmt} (hN : X.N.Nodup) (hall : ∀ k ∈ ks, PySem.W.exmOne X.K (.ref (g.cA k)) (.ref (g.cA c)) = some true) (hm : X.mg x = some (.ref (g.cA c)))
    (hb : ∀ (W' : WX) (pn : List (Addr × Obj)) (xe : Value → Shared → Prop), Takes (X.tr pn xe) W' → PassesOwn (model X.prog X.w) X.A X.env xe → VSse (X.tr pn xe) g W' B rk O O1 body s)
    (hij : i ≠ j := by decide) (hlt0 : decide (i < O.length) = true := by rfl) (w : wkAll ((O.set j .fz).set i .un) O1 = true := by rfl) (hex : X.ex = [] := by rfl) (hs : X.stack = X.env :: X.outer := by rfl) (hf : X.env.frame = some X.env.locals := by rfl) (hi : X.N[i]? = some n := by rfl) (hln : X.env.kindOf n = some .local := by rfl) (hj : X.N[j]? = some y := by rfl)
    (hy : Loc X.env.scope y := by first | exact Or.inl rfl | exact Or.inr rfl) (hfy : X.fn y = true ∨ X.env.scope.names.lookup y = some .local := by first | exact .inl rfl | exact .inr rfl) (hg : Gl X x := by rfl) (hdb : (x == ("__debug__" : Str)) = false := by decide) (hdn : (n == ("__debug__" : Str)) = false := by decide) (hcd : (n == ("__classdict__" : Str)) = false := by decide) :
    VS X g W B rk O O1 (.Try body [.ExceptHandler (some (.Name x npp)) (some n) [.Assign [.Name y py] (.Name n p3) p4] pos'] [] [] pos) (dTry ks j s) := by
  have suite : ∀ (a : Addr) (pn : List (Addr × Obj)), PSs (X.suite a pn) [.Assign [.Name y py] (.Name n p3) p4] (tAsg (tVar i) (gName j)) := fun a pn => by
    have e1 : PE (X.suite a pn) (.Name n p3) (tVar i) := pe_var (X := X.suite a pn) hi (.inl hln) hdn hcd
    exact pss_one (ps_set (X := X.suite a pn) hN hj hy e1 (by rfl) hfy)
  refine ps_imp (ps_try_keep (cv := .ref (g.cA c)) hex hs hf hN hi hln ⟨hg, hdb, .inl hm⟩ (tb := fun W' => tSe X.K g W' B rk O O1 s) (fun W' pn xe tk hp => hb W' pn xe tk hp) suite) fun D σ H ⟨F, ρ, G, P⟩ => ?_
  refine ⟨F, ρ, G, ?_⟩
  unfold dTry at P
  rcases q : s ρ with _ | (k | fl)
  · rw [q] at P; exact P
  · rw [q] at P
    have P : PostS X.K g W B rk O1 F (if k ∈ ks then rok (.nx (ρ.set j (.exc k))) else none) D := P
    by_cases hk : k ∈ ks
    · rw [if_pos hk] at P
      intro F' H' G' s'
      refine ⟨hall k hk, fun a ha => ?_⟩
      have hlt : i < σ.length := by
        rw [← G.lenO]
        exact of_decide_eq_true hlt0
      refine ⟨.ref a, by rw [List.getElem?_set_self hlt], ?_⟩
      show D.nx (((σ.set i (some (.ref a))).set j (some (.ref a))).set i none) (upd H' a (.ext (excAt (g.cA k) a)))
      rw [set_around hij]
      have G2 := G'.allocF (o := .ext (excAt (g.cA k) a)) ha
      have G3 := (G2.set (d := .exc k) (v := .ref a) j (by rw [Rep]; exact ⟨a, rfl, upd_same⟩)).unsetS i
      obtain ⟨F4, G4, s4⟩ := G3.weak w
      exact P F4 _ _ G4 ((s'.trans (same_upd (G'.fnone ha))).trans s4)
    · rw [if_neg hk] at P; exact P.elim
  · rw [q] at P
    exact P
end
/-! ### the end -/
def spEnd (K : PySem.W.Frag) (h : List Dt → R Dt) : Sp := fun vs H Q _ => ∃ (a : Addr) (ns : List Int), vs = [.ref a] ∧ SqL K H a (ns.map V.int) ∧ h [.scr ns] = rok (.bl true) ∧ ∀ H', Q (.bl true) H'
theorem end_imp {K : PySem.W.Frag} {g : Cfg} {h : List Dt → R Dt} {vs : List V} {H : Hp} {Q : VK} {E : XK} (x : spEnd K h vs H Q E) : spV K g 1 .flat h vs H Q E := by
  obtain ⟨a, ns, rfl, hS, e, q⟩ := x
  refine ⟨H, [.scr ns], fun _ _ z => z, rfl, reps_cons (by rw [Rep]; exact ⟨a, rfl, hS⟩) reps_nil, ?_⟩
  rw [e]
  intro v F' H' _ r
  have r2 : Rep K g F' (.bl true) v := r.2
  rw [Rep] at r2
  subst r2
  exact q H'
theorem noCX {P : Program} {w : World} {H : Hp} {s : Shared} {e : Value} {s' : Shared} (h : L2.CX P w [] H s (fun _ _ _ => False) e s') : False := by
  obtain ⟨_, _, _, _, _, _, _, _, _, _, _, _, z⟩ := h
  exact z.elim
theorem kit_ref {K : PySem.W.Frag} {t C : Addr} {b : Bool} (hdct : PySem.W.hasDictIn K C = true) (ht : PySem.W.typeIn K (.ref C) = some (.type "type")) (h4 : PySem.W.subIn K (.ref t) (.ref C) = some b) (hs : PySem.W.subIn K (.ref t) (.ref t) = some true) : PySem.W.kitOne K (.ref t) (.ref C) = some b := by
  by_cases z : t = C
  · subst z
    have e : b = true := Option.some.inj (h4.symm.trans hs)
    subst e
    exact if_pos (beq_self_eq_true _)
  · obtain ⟨cd, hc, _⟩ := PySem.W.any_some hdct
    have e2 : ((PySem.W.clsIn K C).isSome && PySem.W.typeIn K (.ref C) == some (.type "type")) = true := by rw [hc, ht] <;> rfl
    refine (if_neg fun q => z (Value.ref.inj (eq_of_beq q))).trans ?_
    show (if ((PySem.W.clsIn K C).isSome && PySem.W.typeIn K (.ref C) == some (.type "type")) = true then PySem.W.subIn K (.ref t) (.ref C) else none) = some b
    rw [if_pos e2]
    exact h4
theorem kit_val {K : PySem.W.Frag} {t : Addr} (h4 : PySem.W.subIn K (.ref t) (.type "ValueError") = some true) : PySem.W.kitOne K (.ref t) (.type "ValueError") = some true := by
  refine (if_neg fun q => by cases eq_of_beq q).trans ?_
  show (if PySem.W.kitMeta "ValueError" = true then PySem.W.subIn K (.ref t) (.type "ValueError") else none) = some true
  rw [if_pos (by decide +kernel)]
  exact h4
end VL

set_option Elab.async false
set_option linter.all false
set_option maxRecDepth 100000
set_option maxHeartbeats 4000000
namespace VL
open PySem PySem.Spec PyProof.Rows L2
section
variable {X : Cx} {g : Cfg} {W : WX} {B : Base} {O O1 O2 O' : List SK} {pos p0 apos : Pos} {kd : Kd} {rk : RK} {a b c e : Expr} {es : List Expr} {f f1 f2 f3 : List Dt → R Dt} {fs : List Dt → R (List Dt)}
theorem reps_rev {K : PySem.W.Frag} {F : Hp} : ∀ {l : List Dt} {vs : List V}, Reps K g F l vs → Reps K g F l.reverse vs.reverse
  | [], vs, h => by rw [Reps] at h; subst h; exact reps_nil
  | d :: ds, vs, h => by
    rw [Reps] at h
    obtain ⟨v, r, rfl, h2, h3⟩ := h
    rw [List.reverse_cons, List.reverse_cons]
    exact reps_append (reps_rev h3) (reps_cons h2 reps_nil)
def revL : Dt → R Dt
  | .lst l => rok (.lst l.reverse)
  | _ => none
theorem v_revL {k : Nat} {p1 p2 p3 : Pos} (ha : VE X g W B O .ct a f) : VE X g W B O .own (.Subscript a (.Slice none none (some (.UnaryOp .USub (.Constant (.int 1) k p1) p2)) p3) pos) (d1 revL f) := pe_imp (pe_revL ha) fun σ H Q ⟨F, ρ, G, P⟩ =>
  tE_then G P fun d v F1 H1 e1 G1 x1 r1 P1 => by
    cases d <;> first | exact False.elim P1 | skip
    rename_i l
    obtain ⟨p, vs, rfl, h3, h4⟩ := r1
    exact ⟨p, vs, rfl, SqL.of h3, fun q hq => post_new G1 (post_at x1 P1) hq (reps_rev h4)⟩
end
end VL

set_option Elab.async false
set_option linter.all false
set_option maxRecDepth 100000
set_option maxHeartbeats 4000000
namespace VL
open PySem PySem.Spec PyProof.Rows L2
/-! ### own classes -/
structure ClsF (K : PySem.W.Frag) (g : Cfg) (c : Nat) : Prop where
  cl : Cls K (g.oC c)
  nd : (g.oN c).Nodup
  few : (g.oN c).length < 1000
  na : ∀ f ∈ g.oN c, NoAttr K (g.oC c) f
theorem zip_lookup : ∀ {N : List Str} {vs : List V} {k : Nat} {f : Str} {v : V}, N.Nodup → N[k]? = some f → vs[k]? = some v → (N.zip vs).lookup f = some v
  | [], _, k, f, v, _, h, _ => by simp at h
  | n :: N, [], k, f, v, _, _, h => by simp at h
  | n :: N, w :: vs, 0, f, v, _, h1, h2 => by
    simp at h1 h2
    subst h1 h2
    simp [List.lookup]
  | n :: N, w :: vs, k + 1, f, v, nd, h1, h2 => by
    have hne : f ≠ n := fun e => by
      subst e
      exact (List.nodup_cons.mp nd).1 (List.mem_of_getElem? (by simpa using h1))
    have hb : (f == n) = false := beq_eq_false_iff_ne.mpr hne
    rw [List.zip_cons_cons]
    simp only [List.lookup, hb]
    exact zip_lookup (List.nodup_cons.mp nd).2 (by simpa using h1) (by simpa using h2)
theorem zip_none {m : Str} : ∀ {N : List Str} {vs : List V}, m ∉ N → (N.zip vs).lookup m = none
  | [], _, _ => by simp [List.lookup]
  | n :: N, [], _ => by simp [List.lookup]
  | n :: N, w :: vs, h => by
    have hne : m ≠ n := fun e => h (by rw [e]; exact List.mem_cons_self)
    have hb : (m == n) = false := beq_eq_false_iff_ne.mpr hne
    rw [List.zip_cons_cons]
    simp only [List.lookup, hb]
    exact zip_none fun e => h (List.mem_cons_of_mem _ e)
theorem zip_put {y : V} : ∀ {N : List Str} {vs : List V} {k : Nat} {f : Str}, N.Nodup → N[k]? = some f → k ≤ vs.length → putF f y (N.zip vs) = N.zip (if k < vs.length then vs.set k y else vs ++ [y])
  | [], _, k, f, _, h, _ => by simp at h
  | n :: N, [], 0, f, _, h1, h2 => by
    simp at h1
    subst h1
    simp [putF]
  | n :: N, [], k + 1, f, _, h1, h2 => by simp at h2
  | n :: N, w :: vs, 0, f, _, h1, h2 => by
    simp at h1
    subst h1
    simp [putF]
  | n :: N, w :: vs, k + 1, f, nd, h1, h2 => by
    have hne : n ≠ f := fun e => by
      subst e
      exact (List.nodup_cons.mp nd).1 (List.mem_of_getElem? (by simpa using h1))
    have ih := zip_put (y := y) (N := N) (vs := vs) (k := k) (f := f) (List.nodup_cons.mp nd).2 (by simpa using h1) (by simpa using h2)
    rw [List.zip_cons_cons]
    show (if n = f then _ else (n, w) :: putF f y (N.zip vs)) = _
    rw [if_neg hne, ih]
    by_cases c : k < vs.length
    · rw [if_pos c, if_pos (by simpa using c), List.set_cons_succ, List.zip_cons_cons]
    · rw [if_neg c, if_neg (by simpa using c), List.cons_append, List.zip_cons_cons]
section
variable {X : Cx} {CX : CXT} {k : Nat} {f C : Addr} {fd : FuncData} {ps : List Str} {sp : Sp} {E : St → XK} {x m : Str} {p pos apos : Pos} {e o : Expr} {es : List Expr} {ta : TE} {t : TA}
def tMethW (C : Addr) (m : Str) (sp : Sp) (E : St → XK) (ta : TE) (t : TA) : TE := fun σ H Q => ta σ H fun x H1 => ∃ a dx fs, x = .ref a ∧ H1 a = some (.ins C dx fs) ∧ fs.lookup m = none ∧ t σ H1 fun vs H2 => sp (x :: vs) H2 Q (E σ)
theorem pe_methW {pl : Sem Bool} (he : PE X o ta) (c : Cls X.K C) (hm : Meth X.K C m f) (F : FnOk X.prog X.w X.K X.mg X.base CX k f fd ps sp) (hr : Room k X.A) (hb : Binds X.K fd ps []) (hx : ∀ σ, PassesAt CX X σ (E σ)) (ha : PA X (e :: es) t)
    (hst : starEach (e :: es) X.env = (false, eval e X.env) :: starEach es X.env := by rfl) (hpl : (backTo pos (starEach es X.env)).any (·.1) = false := by rfl)
    (ht : eval (.Call (.Attribute o m apos) (e :: es) [] pos) X.env = (do
      let ov ← eval o X.env
      standAt apos.atName
      let (f, first) ← holding [ov] (getMethod ov m pl)
      callWith pos f first (backTo pos (starEach (e :: es) X.env)) (backToKw pos (keywordEach [] X.env))) := by rfl) :
    PE X (.Call (.Attribute o m apos) (e :: es) [] pos) (tMethW C m sp E ta t) := by
  refine ⟨fun pins s σ H Q I h => ?_⟩
  refine PySem.W.methodCall_KW (pl := pl) (thn (he.run pins s σ H _ I h) fun u s1 ⟨x, H1, I1, rx, a, dx, fs, ex, ea, l, q⟩ => ?_) ht
  subst ex
  obtain rfl : u = Value.ref a := rx
  refine getmeth_ok I1 ea c hm l ?_
  refine PySem.W.callWith_K (first := [.ref a]) (h₀ := X.base) I.ok.mod.kin hm.kp (thn (ha.run pos pins s1 σ H1 _ I1 q) fun us s2 ⟨vs, H2, I2, r, q2⟩ => ⟨I2.kIn, ?_⟩) hst hpl
  exact run_fnS (us := .ref a :: us) (vs := .ref a :: vs) F hr hb (hx σ) I2 (.cons rfl r) q2
theorem pe_methW0 {pl : Sem Bool} (he : PE X o ta) (c : Cls X.K C) (hm : Meth X.K C m f) (F : FnOk X.prog X.w X.K X.mg X.base CX k f fd ps sp) (hr : Room k X.A) (hb : Binds X.K fd ps []) (hx : ∀ σ, PassesAt CX X σ (E σ))
    (ht : eval (.Call (.Attribute o m apos) [] [] pos) X.env = (do
      let ov ← eval o X.env
      standAt apos.atName
      let (f, first) ← holding [ov] (getMethod ov m pl)
      callWith pos f first (backTo pos (starEach [] X.env)) (backToKw pos (keywordEach [] X.env))) := by rfl) :
    PE X (.Call (.Attribute o m apos) [] [] pos) (tMethW C m sp E ta tNil) := by
  refine ⟨fun pins s σ H Q I h => ?_⟩
  refine PySem.W.methodCall_KW (pl := pl) (thn (he.run pins s σ H _ I h) fun u s1 ⟨x, H1, I1, rx, a, dx, fs, ex, ea, l, q⟩ => ?_) ht
  subst ex
  obtain rfl : u = Value.ref a := rx
  refine getmeth_ok I1 ea c hm l ?_
  exact PySem.W.callWith_K0 (first := [.ref a]) I1.kIn hm.kp (run_fnS (us := [.ref a]) (vs := [.ref a]) F hr hb (hx σ) I1 (.cons rfl .nil) q)
def tMakeW (C : Addr) (sp : Sp) (E : St → XK) (t : TA) : TE := fun σ H Q => t σ H fun vs H1 => ∀ x dx, H1 x = none → H1 dx = none → dx ≠ x →
  sp (.ref x :: vs) (upd (upd H1 dx (.own x)) x (.ins C dx [])) (fun v H2 => v = .non ∧ Q (.ref x) H2) (E σ)
theorem run_makeW {pins : List (Addr × Obj)} {σ : St} {H : Hp} {s : Shared} {Q : VK} {us : List Value} {vs : List V} (M : Mk X.K C f) (F : FnOk X.prog X.w X.K X.mg X.base CX k f fd ps sp) (hr : Room (k + 1) X.A) (hb : Binds X.K fd ps [])
    (hx : PassesAt CX X σ (E σ)) (I : Inv X pins σ H s) (r : Vals vs us)
    (h : ∀ x dx, H x = none → H dx = none → dx ≠ x → sp (.ref x :: vs) (upd (upd H dx (.own x)) x (.ins C dx [])) (fun v H2 => v = .non ∧ Q (.ref x) H2) (E σ)) :
    wpAny (model X.prog X.w) X.A (call (.ref C) us) (EP X pins σ Q) X.xe s := by
  have hq := h (s.heap.objs.size + 1) s.heap.objs.size (I.hok.fresh (Nat.le_succ _)) (I.hok.fresh (Nat.le_refl _)) (Nat.ne_of_lt (Nat.lt_succ_self _))
  have I2 := Inv.made (C := C) I
  have r2 : Vals (V.ref (s.heap.objs.size + 1) :: vs) (Value.ref (s.heap.objs.size + 1) :: us) := .cons rfl r
  have hl : (Value.ref (s.heap.objs.size + 1) :: us).length = ps.length := by
    have e := r2.length
    rw [F.len _ _ _ _ hq] at e
    exact e.symm
  have b := hb _ (Value.ref (s.heap.objs.size + 1) :: us) I2.kIn (by rw [List.append_nil]; exact hl)
  rw [List.append_nil] at b
  refine wpAny_call (make_map (f := f) I.kIn M.makes M.init (beq_iff_eq.mp M.fn) (codeAny_mono (F.run _ X.stack _ _ ⟨Value.ref (s.heap.objs.size + 1) :: us, []⟩ (Value.ref (s.heap.objs.size + 1) :: us) _ _ (E σ) (hr.make C us [])
    (I2.env0.make C us []) b r2 hq) fun r s' hq' => ?_))
  cases r with
  | error e => exact hx pins _ _ e s' I2 hq'
  | ok fl =>
    cases fl with
    | ret u =>
      obtain ⟨v, H', I3, rv, ev, q3⟩ := I2.after hq'
      subst ev
      exact ⟨rv, ⟨V.ref (s.heap.objs.size + 1), H', I3, rfl, q3⟩⟩
    | next => exact False.elim hq'
    | brk => exact False.elim hq'
    | cont => exact False.elim hq'
theorem pe_makeW (M : Mk X.K C f) (F : FnOk X.prog X.w X.K X.mg X.base CX k f fd ps sp) (hr : Room (k + 1) X.A) (hg : Gl X x) (hm : X.mg x = some (.ref C)) (hb : Binds X.K fd ps []) (hx : ∀ σ, PassesAt CX X σ (E σ))
    (ha : PA X (e :: es) t) (hdb : (x == ("__debug__" : Str)) = false := by decide) (he : starEach (e :: es) X.env = (false, eval e X.env) :: starEach es X.env := by rfl) (hpl : (backTo pos (starEach es X.env)).any (·.1) = false := by rfl) :
    PE X (.Call (.Name x p) (e :: es) [] pos) (tMakeW C sp E t) := by
  refine ⟨fun pins s σ H Q I h => ?_⟩
  refine wpAny_Call_Name_kw (ld_glob I hg hm ?_ hdb)
  refine PySem.W.callWith_K (h₀ := X.base) I.ok.mod.kin M.kp (thn (ha.run pos pins s σ H _ I h) fun us s1 ⟨vs, H1, I1, r, q⟩ => ⟨I1.kIn, ?_⟩) he hpl
  exact run_makeW M F hr hb (hx σ) I1 r q
theorem pe_makeW0 (M : Mk X.K C f) (F : FnOk X.prog X.w X.K X.mg X.base CX k f fd ps sp) (hr : Room (k + 1) X.A) (hg : Gl X x) (hm : X.mg x = some (.ref C)) (hb : Binds X.K fd ps []) (hx : ∀ σ, PassesAt CX X σ (E σ))
    (hdb : (x == ("__debug__" : Str)) = false := by decide) : PE X (.Call (.Name x p) [] [] pos) (tMakeW C sp E tNil) := by
  refine ⟨fun pins s σ H Q I h => ?_⟩
  refine wpAny_Call_Name_kw (ld_glob I hg hm ?_ hdb)
  exact PySem.W.callWith_K0 I.kIn M.kp (run_makeW (us := []) M F hr hb (hx σ) I .nil h)
end
section
variable {X : Cx} {g : Cfg} {W : WX} {B : Base} {O O1 O2 O' : List SK} {pos p0 apos : Pos} {kd : Kd} {rk : RK} {a b c e : Expr} {es : List Expr} {f f1 f2 f3 : List Dt → R Dt} {fs : List Dt → R (List Dt)} {p p1 p2 : List Dt → R Bool} {s s1 s2 : List Dt → R Fl} {st : Stmt} {rest : List Stmt}
/-! ### attributes -/
def gAttr (c k : Nat) : Dt → R Dt
  | .obj c' l => if c' = c then (l[k]?).map Except.ok else none
  | _ => none
theorem gAttr_inv {c k : Nat} {d : Dt} {er : Nat → Prop} {ok : Dt → Prop} (P : PostX er (gAttr c k d) ok) : ∃ l d', d = .obj c l ∧ l[k]? = some d' ∧ ok d' := by
  cases d <;> first | exact False.elim P | skip
  rename_i c' l
  have P1 : PostX er (if c' = c then (l[k]?).map Except.ok else none) ok := P
  by_cases hc : c' = c
  · rw [if_pos hc] at P1
    cases q : l[k]? with
    | none => rw [q] at P1; exact P1.elim
    | some d' => rw [q] at P1; exact ⟨l, d', by rw [hc], q, P1⟩
  · rw [if_neg hc] at P1; exact P1.elim
theorem v_attr {fn : Str} (c k : Nat) (C : ClsF X.K g c) (ha : VE X g W B O .ct a f) (hk : (g.oN c)[k]? = some fn := by rfl) (hb : attributeBase a fn X.env (eval a X.env) = eval a X.env := by rfl) : VE X g W B O .fz (.Attribute a fn pos) (d1 (gAttr c k) f) := pe_imp (pe_fld ha hb) fun σ H Q ⟨F, ρ, G, P⟩ =>
  tE_then G P fun d v F1 H1 e1 G1 x1 r1 P1 => by
    obtain ⟨l, d', rfl, hl, P2⟩ := gAttr_inv P1
    obtain ⟨p, dx, vs, rfl, h1, h2, h3⟩ := (by simpa [ResOk, RepC, Rep] using r1 : ∃ a dx vs, v = .ref a ∧ F1 a = some (.ins (g.oC c) dx ((g.oN c).zip vs)) ∧ vs.length = (g.oN c).length ∧ Reps X.K g F1 l vs)
    obtain ⟨w, hw, rw_⟩ := reps_get h3 hl
    exact ⟨p, _, dx, _, w, rfl, G1.sub _ _ h1, C.cl, C.na fn (List.mem_of_getElem? hk), zip_lookup C.nd hk hw, P2 _ F1 H1 G1 x1 rw_⟩
/-- .. of the object that is written -/
theorem v_attrM {fn x : Str} {px : Pos} (c k i : Nat) (C : ClsF X.K g c) (hk : (g.oN c)[k]? = some fn := by rfl) (hO : O[i]? = some .me := by rfl) (hN : X.N[i]? = some x := by rfl) (hv : Vis X.env.scope x := by first | exact Or.inl rfl | exact Or.inr (Or.inl rfl) | exact Or.inr (Or.inr rfl)) (hd : (x == ("__debug__" : Str)) = false := by decide)
    (hcd : (x == ("__classdict__" : Str)) = false := by decide) (hb : attributeBase (.Name x px) fn X.env (eval (.Name x px) X.env) = eval (.Name x px) X.env := by rfl) : VE X g W B O .fz (.Attribute (.Name x px) fn pos) (d1 (gAttr c k) (dVar i)) := pe_imp (pe_fld (pe_var hN hv hd hcd) hb) fun σ H Q ⟨F, ρ, G, P⟩ => by
  obtain ⟨d, o, h1, h2, p, e1, e2, m⟩ := slot_there G hO
  have e : dVar i ρ = some (.ok d) := by unfold dVar; rw [h1]; rfl
  have P0 : Post X.K g W B O .fz (rbind (dVar i ρ) (gAttr c k)) F ρ σ H Q := P
  rw [e] at P0
  obtain ⟨l, d', rfl, hl, P2⟩ := gAttr_inv P0
  obtain ⟨c', st, dx, vs, m1, m2, m3, m4, m5⟩ := m
  cases m1
  obtain ⟨w, hw, rw_⟩ := reps_get m4 hl
  subst e2
  exact ⟨_, h2, p, _, dx, _, w, rfl, m2, C.cl, C.na fn (List.mem_of_getElem? hk), zip_lookup C.nd hk hw, P2 _ F H G (Ext.refl _ _) rw_⟩
/-! ### methods of what is frozen -/
theorem resOk_call {K : PySem.W.Frag} {F1 H0 H1 F' H' : Hp} {ρ : List Dt} {σ : St} {d : Dt} {v : V} (G1 : Good K g B O F1 ρ σ H1) (x : Same H0 H1) (ro : RetOk K g ⟨H1, F1, none⟩ F' H' rk d v) : ResOk K g B O H0 F' σ H' (rkK rk) d v := by
  cases rk with
  | flat => exact ro.2
  | fz => exact ro
  | own =>
    refine ⟨?_, fun i hi hs => ?_, fun p hp => ?_⟩
    · obtain ⟨p, vs, l, a1, a2, a3, a4, a5, a6⟩ := ro
      exact ⟨p, vs, l, a1, a2, a3, a4, G1.b0.free a5, a6⟩
    · obtain ⟨p, vs, l, a1, a2, a3, a4, a5, a6⟩ := ro
      rw [a1] at hs
      exact G1.apartNew a5 i hi hs
    · obtain ⟨p', vs, l, a1, a2, a3, a4, a5, a6⟩ := ro
      rw [hp] at a1; cases a1
      exact x.free a5
  | ownf =>
    obtain ⟨ro, _⟩ := ro
    refine ⟨?_, fun i hi hs => ?_, fun p hp => ?_⟩
    · obtain ⟨p, vs, l, a1, a2, a3, a4, a5, a6⟩ := ro
      exact ⟨p, vs, l, a1, a2, a3, a4, G1.b0.free a5, a6⟩
    · obtain ⟨p, vs, l, a1, a2, a3, a4, a5, a6⟩ := ro
      rw [a1] at hs
      exact G1.apartNew a5 i hi hs
    · obtain ⟨p', vs, l, a1, a2, a3, a4, a5, a6⟩ := ro
      rw [hp] at a1; cases a1
      exact x.free a5
  | mu =>
    obtain ⟨r, d0, p, _, e, _⟩ := ro
    cases e
def dMeth (c : Nat) (h : List Dt → R Dt) (f : List Dt → R Dt) (fs : List Dt → R (List Dt)) : List Dt → R Dt := fun ρ => rbind (f ρ) fun d0 => match d0 with
  | .obj c' l => if c' = c then rbind (fs ρ) fun ds => h (.obj c l :: ds) else none
  | _ => none
theorem methF_core {c n : Nat} {m : Str} {h : List Dt → R Dt} (hm : m ∉ g.oN c) (hn : ∀ (ρ : List Dt) (ds : List Dt), fs ρ = some (.ok ds) → ds.length = n) (σ : St) (H : Hp) (Q : VK) (P : tE X.K g W B O (rkK rk) (dMeth c h f fs) σ H Q) :
    tMethW (g.oC c) m (spV X.K g (n + 1) rk h) (WE W) (tE X.K g W B O .fz f) (tA X.K g W B O .fz fs) σ H Q := by
  obtain ⟨F, ρ, G, P⟩ := P
  refine tE_then G P fun d v F1 H1 e1 G1 x1 r1 P1 => ?_
  cases d <;> first | exact False.elim P1 | skip
  rename_i c' l
  have P1 : PostX (ErE X.K g W B O F ρ σ) (if c' = c then rbind (fs ρ) fun ds => h (.obj c l :: ds) else none) _ := P1
  by_cases hc : c' = c
  · rw [if_pos hc] at P1
    subst hc
    have r1 : Rep X.K g F1 (.obj c' l) v := r1
    have r1' := r1
    rw [Rep] at r1'
    obtain ⟨p, dx, vs, rfl, h1, h2, h3⟩ := r1'
    refine ⟨p, dx, _, rfl, G1.sub _ _ h1, zip_none hm, F1, ρ, G1, PostX.mono (PostX.bind P1) (fun _ z => erM x1.f z) fun ds e P2 ws F2 H2 G2 x2 r2 => ?_⟩
    have x12 := x1.trans x2
    refine ⟨F2, .obj c' l :: ds, G2.sub, by rw [List.length_cons, hn ρ ds e], reps_cons (rep_mono x2.f _ _ r1) r2, PostX.mono P2 (fun c z H' s => z F2 H' (G2.grow (fun _ _ z => z) s (G2.sub.trans s) fun _ _ z => .inl z) x12.f) fun d' _ q v' F' H' rg ro => ?_⟩
    exact q v' F' H' (G2.called rg) (x12.trans rg.1) (resOk_call G2 x12.h ro)
  · rw [if_neg hc] at P1; exact P1.elim
section
variable {k n : Nat} {fa : Addr} {fd : FuncData} {ps : List Str} {h : List Dt → R Dt} {x m : Str} {pl : Sem Bool}
theorem v_meth (c : Nat) (tk : Takes X W) (C : ClsF X.K g c) (hm : Meth X.K (g.oC c) m fa) (Fo : FnOk X.prog X.w X.K X.mg X.base (L2.CX X.prog X.w) k fa fd ps (spV X.K g (n + 1) rk h)) (hr : Room k X.A) (hb : Binds X.K fd ps []) (ho : VE X g W B O .fz a f) (ha : VA X g W B O .fz (e :: es) fs)
    (hn : ∀ (ρ : List Dt) (ds : List Dt), fs ρ = some (.ok ds) → ds.length = n) (hm0 : m ∉ g.oN c)
    (hst : starEach (e :: es) X.env = (false, eval e X.env) :: starEach es X.env := by rfl) (hpl : (backTo pos (starEach es X.env)).any (·.1) = false := by rfl)
    (ht : eval (.Call (.Attribute a m apos) (e :: es) [] pos) X.env = (do
      let ov ← eval a X.env
      standAt apos.atName
      let (f, first) ← holding [ov] (getMethod ov m pl)
      callWith pos f first (backTo pos (starEach (e :: es) X.env)) (backToKw pos (keywordEach [] X.env))) := by rfl) :
    VE X g W B O (rkK rk) (.Call (.Attribute a m apos) (e :: es) [] pos) (dMeth c h f fs) :=
  pe_imp (pe_methW ho C.cl hm Fo hr hb (fun σ => passAt tk σ) ha hst hpl ht) fun σ H Q P => methF_core hm0 hn σ H Q P
theorem v_meth0 (c : Nat) (tk : Takes X W) (C : ClsF X.K g c) (hm : Meth X.K (g.oC c) m fa) (Fo : FnOk X.prog X.w X.K X.mg X.base (L2.CX X.prog X.w) k fa fd ps (spV X.K g 1 rk h)) (hr : Room k X.A) (hb : Binds X.K fd ps []) (ho : VE X g W B O .fz a f) (hm0 : m ∉ g.oN c)
    (ht : eval (.Call (.Attribute a m apos) [] [] pos) X.env = (do
      let ov ← eval a X.env
      standAt apos.atName
      let (f, first) ← holding [ov] (getMethod ov m pl)
      callWith pos f first (backTo pos (starEach [] X.env)) (backToKw pos (keywordEach [] X.env))) := by rfl) :
    VE X g W B O (rkK rk) (.Call (.Attribute a m apos) [] [] pos) (dMeth c h f aNil) :=
  pe_imp (pe_methW0 ho C.cl hm Fo hr hb (fun σ => passAt tk σ) ht) fun σ H Q P => by
    obtain ⟨F, ρ, G, P⟩ := P
    refine tE_then G P fun d v F1 H1 e1 G1 x1 r1 P1 => ?_
    cases d <;> first | exact False.elim P1 | skip
    rename_i c' l
    have P1 : PostX (ErE X.K g W B O F ρ σ) (if c' = c then rbind (aNil ρ) fun ds => h (.obj c l :: ds) else none) _ := P1
    by_cases hc : c' = c
    · rw [if_pos hc] at P1
      subst hc
      have r1 : Rep X.K g F1 (.obj c' l) v := r1
      have r1' := r1
      rw [Rep] at r1'
      obtain ⟨p, dx, vs, rfl, h1, h2, h3⟩ := r1'
      have P2 : PostX (ErE X.K g W B O F ρ σ) (h [.obj c' l]) _ := P1
      refine ⟨p, dx, _, rfl, G1.sub _ _ h1, zip_none hm0, F1, [.obj c' l], G1.sub, rfl, reps_cons r1 reps_nil, PostX.mono P2 (fun c z H' s => z F1 H' (G1.grow (fun _ _ z => z) s (G1.sub.trans s) fun _ _ z => .inl z) x1.f) fun d' _ q v' F' H' rg ro => ?_⟩
      exact q v' F' H' (G1.called rg) (x1.trans rg.1) (resOk_call G1 x1.h ro)
    · rw [if_neg hc] at P1; exact P1.elim
end
/-- by the class of a slot's object -/
def dAlt (i c : Nat) (f1 f2 : List Dt → R Dt) : List Dt → R Dt := fun ρ => match ρ[i]? with
  | some (.obj c' _) => if c' = c then f1 ρ else f2 ρ
  | _ => none
theorem v_alt (i c : Nat) (h1 : VE X g W B O kd e f1) (h2 : VE X g W B O kd e f2) : VE X g W B O kd e (dAlt i c f1 f2) := ⟨fun pins s σ H Q I h => by
  obtain ⟨F, ρ, G, P⟩ := h
  have P : Post X.K g W B O kd (match ρ[i]? with | some (.obj c' _) => if c' = c then f1 ρ else f2 ρ | _ => none) F ρ σ H Q := P
  split at P
  · split at P
    · exact h1.run pins s σ H Q I ⟨F, ρ, G, P⟩
    · exact h2.run pins s σ H Q I ⟨F, ρ, G, P⟩
  · exact P.elim⟩
/-! ### a def that writes its first argument -/
def er (H : Hp) (p : Addr) : Hp := fun a => if a = p then none else H a
theorem er_same {H : Hp} {p : Addr} : Same (er H p) H := fun a o e => by
  unfold er at e
  by_cases h : a = p
  · rw [if_pos h] at e; cases e
  · rw [if_neg h] at e; exact e
theorem er_ne {H : Hp} {p a : Addr} (h : a ≠ p) : er H p a = H a := if_neg h
theorem er_at {H : Hp} {p : Addr} : er H p p = none := if_pos rfl
def spM (K : PySem.W.Frag) (g : Cfg) (n : Nat) (h : List Dt → R Dt) : Sp := fun vs H Q E => ∃ F p d0 ds vs', vs = .ref p :: vs' ∧ MeAt K g F H p d0 ∧ Same F H ∧ ds.length = n ∧ Reps K g F ds vs' ∧
  PostX (fun c => ∀ H', Same (er H p) H' → E (.ref (g.cA c)) none H') (h (d0 :: ds)) fun d => ∀ v F' H', RetG ⟨er H p, F, some p⟩ F' H' → RetOk K g ⟨er H p, F, some p⟩ F' H' .mu d v → Q v H'
def noMe : List SK → Bool
  | [] => true
  | .me :: _ => false
  | _ :: l => noMe l
theorem noMe_of : ∀ {l : List SK}, noMe l = true → ∀ j : Nat, l[j]? ≠ some SK.me
  | [], _, j => by simp
  | k :: l, h, 0 => by cases k <;> simp [noMe] at h ⊢
  | k :: l, h, j + 1 => by
    have : noMe l = true := by cases k <;> simp [noMe] at h ⊢ <;> exact h
    simpa using noMe_of this j
/-- the object is written -/
theorem Good.writeM {K : PySem.W.Frag} {F F' H H' : Hp} {ρ : List Dt} {σ : St} {p : Addr} {i : Nat} {d : Dt} (G : Good K g B O F ρ σ H) (hme : B.me = some p) (hB : B.H p = none) (hO : O[i]? = some .me) (hu : noMe (O.set i .un) = true) (hF : F p = none) (hp : ∃ C dx fs, H p = some (.ins C dx fs))
    (rf : Same F F') (rh : Same (er H p) H') (sub : Same F' H') (new : ∀ a o, F' a = some o → F a = some o ∨ er H p a = none) (m : MeAt K g F' H' p d) : Good K g B O F' (ρ.set i d) σ H' where
  lenO := G.lenO
  lenR := by simpa using G.lenR
  b0 := fun a o e => rh _ _ (by rw [er_ne (ne_of_none e hB)]; exact G.b0 _ _ e)
  bF := G.bF.trans rf
  sub := sub
  new := fun a o e => by
    rcases new a o e with q | q
    · exact G.new a o q
    · refine .inr ?_
      by_cases h : a = p
      · subst h; exact hB
      · rw [er_ne h] at q; exact G.b0.free q
  slot := fun j k d' o h1 h2 h3 => by
    by_cases hj : j = i
    · subst hj
      rw [hO] at h1; cases h1
      rcases getE_set h2 with ⟨_, b2⟩ | ⟨b1, _⟩
      · subst b2
        obtain ⟨d0, o0, _, e2, q, e3, e4, _⟩ := slot_there G hO
        rw [e2] at h3; cases h3
        exact ⟨q, e3, e4, by rw [hme] at e3; cases e3; exact m⟩
      · exact absurd rfl b1
    · rw [List.getElem?_set_ne (Ne.symm hj)] at h2
      have q := G.slot j k d' o h1 h2 h3
      cases k with
      | un => trivial
      | fz => obtain ⟨v, e, r⟩ := q; exact ⟨v, e, rep_mono rf _ _ r⟩
      | own =>
        obtain ⟨v, e, q', vs, l, e1, e2, e3, e4, e5, e6⟩ := q
        have ne : q' ≠ p := fun z => by
          obtain ⟨C, dx, fs, hp⟩ := hp
          rw [z, hp] at e3; cases e3
        refine ⟨v, e, q', vs, l, e1, e2, rh _ _ (by rw [er_ne ne]; exact e3), ?_, e5, reps_mono rf _ _ e6⟩
        cases z : F' q' with
        | none => rfl
        | some o' =>
          rcases new q' o' z with u | u
          · rw [e4] at u; cases u
          · rw [er_ne ne, e3] at u; cases u
      | me =>
        have := noMe_of hu j
        rw [List.getElem?_set_ne (Ne.symm hj)] at this
        exact absurd h1 this
      | bo =>
        obtain ⟨q, ws, l, e1, e2, e3, e4⟩ := q
        exact ⟨q, ws, l, e1, e2, e3, reps_mono rf _ _ e4⟩
  apart := G.apart
def dFnM (m : Nat) (s : List Dt → R Fl) : List Dt → R Dt := fun ds => rbind (s (ds ++ List.replicate m .non)) fun fl => match fl with
  | .nx ρ' => match ρ'[0]? with
    | some d0 => rok (.tup [.non, d0])
    | none => none
  | .rt d => rok d
def startM (n m : Nat) : List SK := .me :: (List.replicate n .fz ++ List.replicate m .un)
theorem good_startM {K : PySem.W.Frag} {F H : Hp} {N : List Str} {ds : List Dt} {d0 : Dt} {p : Addr} {vs : List V} {n m : Nat} (sub : Same F H) (hn : ds.length = n) (hN : N.length = n + 1 + m) (r : Reps K g F ds vs) (me : MeAt K g F H p d0) :
    Good K g ⟨er H p, F, some p⟩ (startM n m) F ((d0 :: ds) ++ List.replicate m .non) (L2.start N (.ref p :: vs)) H := by
  have hl := reps_len r
  have hm : N.length - (V.ref p :: vs).length = m := by rw [List.length_cons]; omega
  have hst : L2.start N (.ref p :: vs) = some (.ref p) :: (vs.map some ++ List.replicate m none) := by unfold L2.start; rw [hm]; rfl
  refine ⟨?_, ?_, er_same, fun _ _ z => z, sub, fun _ _ z => .inl z, ?_, ?_⟩
  · rw [hst]; unfold startM; simp; omega
  · rw [hst]; simp; omega
  · intro i k d o h1 h2 h3
    rw [hst] at h3
    cases i with
    | zero =>
      have h1 : some SK.me = some k := h1
      have h2 : some d0 = some d := h2
      have h3 : some (some (V.ref p)) = some o := h3
      cases h1; cases h2; cases h3
      exact ⟨p, rfl, rfl, me⟩
    | succ i =>
      have h1 : (List.replicate n SK.fz ++ List.replicate m SK.un)[i]? = some k := by simpa [startM] using h1
      have h2 : (ds ++ List.replicate m Dt.non)[i]? = some d := by simpa using h2
      have h3 : (vs.map some ++ List.replicate m none)[i]? = some o := by simpa using h3
      by_cases hi : i < n
      · rw [List.getElem?_append_left (by simpa using hi)] at h1
        have : k = .fz := by simp [hi] at h1; exact h1.symm
        subst this
        rw [List.getElem?_append_left (by omega)] at h2
        obtain ⟨v, h4, h5⟩ := reps_get r h2
        rw [List.getElem?_append_left (by simp; omega), List.getElem?_map, h4] at h3
        cases h3
        exact ⟨v, rfl, h5⟩
      · rw [List.getElem?_append_right (by simpa using hi), List.getElem?_replicate] at h1
        split at h1
        · cases h1; trivial
        · cases h1
  · intro i j q h1 h2 _ _
    exfalso
    have : SK.own ∈ startM n m := List.mem_of_getElem? h1
    unfold startM at this
    simp at this
section
variable {P : Program} {w : World} {K : PySem.W.Frag} {mg : Str → Option Value} {base : Heap}
theorem fn_valM {x qual : Str} {st : Stmt} {fa : Addr} {fd : FuncData} {N ps : List Str} {k n m : Nat} {O1 : List SK} {sd : List Dt → R Fl} (Fu : Fun K x qual st fa fd) (S : FnScope N ps (defScope st)) (hn : ps.length = n + 1) (hN : N.length = n + 1 + m)
    (hb : ∀ (cdv : Value) (A : Around) (outer : List Env) (s : Shared) (H F : Hp) (p : Addr) (E : XK), Room k (A.deeper (envOfC qual (defScope st) s.heap.objs.size fa cdv)) → Takes (cxOf (L2.CX P w) P w K mg base N qual (defScope st) fa cdv A outer s H E) (fun cls d _ H => E cls d H) →
      VSs (cxOf (L2.CX P w) P w K mg base N qual (defScope st) fa cdv A outer s H E) g (fun cls d _ H => E cls d H) ⟨er H p, F, some p⟩ .mu (startM n m) O1 (defBody st) sd) (h0 : O1 = [] ∨ O1[0]? = some .me) : FnOk P w K mg base (L2.CX P w) (k + 1) fa fd ps (spM K g n (dFnM m sd)) := by
  refine Fu.okX S (fun vs H Q E h => ?_) fun cdv A outer s H vs Q E hr h => ?_
  · obtain ⟨F, p, d0, ds, vs', rfl, _, _, hl, r, _⟩ := h
    rw [List.length_cons, ← reps_len r, hl, hn]
  · obtain ⟨F, p, d0, ds, vs', rfl, me, sub, hl, r, post⟩ := h
    refine ⟨_, hb cdv A outer s H F p E hr (takes_of rfl rfl rfl rfl), ?_⟩
    refine ⟨F, _, good_startM sub hl hN r me, PostX.mono (PostX.bind post) (fun c z σ' H' s => z H' s) fun fl _ q => ?_⟩
    cases fl with
    | nx ρ' =>
      intro F' σ' H' G' s'
      rcases h0 with h0 | h0
      · have e1 := G'.lenO
        have e2 := G'.lenR
        subst h0
        have q : PostX (fun c => ∀ H', Same (er H p) H' → E (.ref (g.cA c)) none H') (match ρ'[0]? with | some d0 => (rok (Dt.tup [Dt.non, d0]) : R Dt) | none => none) _ := q
        have : ρ'[0]? = none := List.getElem?_eq_none_iff.mpr (by rw [e2, ← e1]; exact Nat.le_refl _)
        rw [this] at q
        exact q.elim
      · obtain ⟨d1, o, h1, h2, p', h3, h4, m'⟩ := slot_there G' h0
        cases h3
        have q : PostX (fun c => ∀ H', Same (er H p) H' → E (.ref (g.cA c)) none H') (match ρ'[0]? with | some d0 => (rok (Dt.tup [Dt.non, d0]) : R Dt) | none => none) _ := q
        rw [h1] at q
        exact q .non F' H' G'.ret ⟨.non, d1, p, rfl, rfl, rep_non (K := K) (g := g) (F := F'), m'⟩
    | rt d => exact fun v F' H' rg ro => q v F' H' rg ro
end
def dRetM (f : List Dt → R Dt) : List Dt → R Fl := fun ρ => rbind (f ρ) fun d => match ρ[0]? with
  | some d0 => rok (.rt (.tup [d, d0]))
  | none => none
theorem vs_retM (h : VE X g W B O .fz e f) (hO : O[0]? = some .me := by rfl) : VS X g W B .mu O O' (.Return (some e) pos) (dRetM f) := ps_imp (ps_ret h) fun D σ H ⟨F, ρ, G, P⟩ =>
  tE_then G P fun d v F1 H1 e1 G1 x1 r1 P1 => by
    obtain ⟨d1, o, h1, h2, p', h3, h4, m'⟩ := slot_there G1 hO
    have P1 : PostX (ErW g W B) (match ρ[0]? with | some d0 => (rok (Fl.rt (.tup [d, d0])) : R Fl) | none => none) _ := P1
    rw [h1] at P1
    exact P1 v F1 H1 G1.ret ⟨d, d1, p', rfl, h3, r1, m'⟩
def setA (c k : Nat) (d : Dt) : Dt → R Dt
  | .obj c' l => if c' = c ∧ k ≤ l.length then rok (.obj c (if k < l.length then l.set k d else l ++ [d])) else none
  | _ => none
theorem setA_inv {c k : Nat} {d d0 : Dt} {er : Nat → Prop} {ok : Dt → Prop} (P : PostX er (setA c k d d0) ok) : ∃ l, d0 = .obj c l ∧ k ≤ l.length ∧ ok (.obj c (if k < l.length then l.set k d else l ++ [d])) := by
  cases d0 <;> first | exact False.elim P | skip
  rename_i c' l
  have P : PostX er (if c' = c ∧ k ≤ l.length then rok (.obj c (if k < l.length then l.set k d else l ++ [d])) else none) ok := P
  by_cases hc : c' = c ∧ k ≤ l.length
  · rw [if_pos hc] at P
    obtain ⟨rfl, h⟩ := hc
    exact ⟨l, rfl, h, P⟩
  · rw [if_neg hc] at P; exact P.elim
def dAttr (i c k : Nat) (f : List Dt → R Dt) : List Dt → R Fl := fun ρ => rbind (f ρ) fun d => match ρ[i]? with
  | some d0 => rbind (setA c k d d0) fun d1 => rok (.nx (ρ.set i d1))
  | none => none
theorem vs_attr {x fn : Str} {px tpos : Pos} (i c k : Nat) (C : ClsF X.K g c) (h : VE X g W B O .fz e f) (hB : ∀ p, B.me = some p → B.H p = none) (hk : (g.oN c)[k]? = some fn := by rfl) (hO : O[i]? = some .me := by rfl) (hu : noMe (O.set i .un) = true := by rfl) (hN : X.N[i]? = some x := by rfl)
    (hv : Vis X.env.scope x := by first | exact Or.inl rfl | exact Or.inr (Or.inl rfl) | exact Or.inr (Or.inr rfl)) (hd : (x == ("__debug__" : Str)) = false := by decide) (hcd : (x == ("__classdict__" : Str)) = false := by decide)
    (hs : swapsWith e (some (.Attribute (.Name x px) fn tpos)) pos.line X.env = pure false := by rfl) : VS X g W B rk O O (.Assign [.Attribute (.Name x px) fn tpos] e pos) (dAttr i c k f) := ps_imp (ps_fld (pe_var hN hv hd hcd) h hs) fun D σ H ⟨F, ρ, G, P⟩ =>
  tE_then G P fun d v F1 H1 e1 G1 x1 r1 P1 => by
    obtain ⟨d0, o, h1, h2, p, h3, h4, m⟩ := slot_there G1 hO
    have P1 : PostX (ErW g W B) (match ρ[i]? with | some d0 => (rbind (setA c k d d0) fun d1 => rok (Fl.nx (ρ.set i d1)) : R Fl) | none => none) _ := P1
    rw [h1] at P1
    obtain ⟨l, rfl, hl, P2⟩ := setA_inv (PostX.bind P1)
    obtain ⟨c', st, dx, vs, m1, m2, m3, m4, m5⟩ := m
    cases m1
    subst h4
    have hlen := reps_len m4
    have hkl : k < (g.oN c).length := (List.getElem?_eq_some_iff.mp hk).1
    refine ⟨_, h2, p, _, dx, _, rfl, m2, C.cl, C.na fn (List.mem_of_getElem? hk), by rw [List.length_zip]; have := C.few; omega, ?_⟩
    rw [zip_put C.nd hk (by omega)]
    refine P2 F1 σ _ (G1.writeM (F' := F1) h3 (hB p h3) hO hu m5 ⟨_, _, _, m2⟩ (fun _ _ z => z) (fun a o e => ?_) (fun a o e => ?_) (fun _ _ z => .inl z) ⟨c, _, dx, (if k < vs.length then vs.set k v else vs ++ [v]), rfl, upd_same, ?_, ?_, m5⟩) x1.f
    · by_cases ha : a = p
      · subst ha; rw [er_at] at e; cases e
      · rw [er_ne ha] at e; rw [upd_ne ha]; exact e
    · rw [upd_ne (ne_of_none e m5)]; exact G1.sub _ _ e
    · split
      · rw [List.length_set]; exact m3
      · rw [List.length_append, List.length_singleton]; omega
    · by_cases q : k < l.length
      · rw [if_pos q, if_pos (by omega)]; exact reps_set k m4 r1
      · rw [if_neg q, if_neg (by omega)]; exact reps_append m4 (reps_cons r1 reps_nil)
/-- self.m(..), m writes self -/
def dCallM (i c : Nat) (h : List Dt → R Dt) (fs : List Dt → R (List Dt)) : List Dt → R Fl := fun ρ => match ρ[i]? with
  | some (.obj c' l) => if c' = c then rbind (fs ρ) fun ds => rbind (h (.obj c l :: ds)) fun d => (match d with
    | .tup [_, d1] => rok (.nx (ρ.set i d1))
    | _ => none) else none
  | _ => none
theorem vs_callM {k n : Nat} {fa : Addr} {fd : FuncData} {ps : List Str} {h : List Dt → R Dt} {x m : Str} {pl : Sem Bool} {px cpos : Pos} (i c : Nat) (tk : Takes X W) (C : ClsF X.K g c) (hm : Meth X.K (g.oC c) m fa) (Fo : FnOk X.prog X.w X.K X.mg X.base (L2.CX X.prog X.w) k fa fd ps (spM X.K g n h)) (hr : Room k X.A) (hb : Binds X.K fd ps []) (ha : VA X g W B O .fz (e :: es) fs)
    (hn : ∀ (ρ : List Dt) (ds : List Dt), fs ρ = some (.ok ds) → ds.length = n) (hm0 : m ∉ g.oN c) (hB : ∀ p, B.me = some p → B.H p = none) (hO : O[i]? = some .me := by rfl) (hu : noMe (O.set i .un) = true := by rfl) (hN : X.N[i]? = some x := by rfl)
    (hv : Vis X.env.scope x := by first | exact Or.inl rfl | exact Or.inr (Or.inl rfl) | exact Or.inr (Or.inr rfl)) (hd : (x == ("__debug__" : Str)) = false := by decide) (hcd : (x == ("__classdict__" : Str)) = false := by decide)
    (hst : starEach (e :: es) X.env = (false, eval e X.env) :: starEach es X.env := by rfl) (hpl : (backTo cpos (starEach es X.env)).any (·.1) = false := by rfl)
    (ht : eval (.Call (.Attribute (.Name x px) m apos) (e :: es) [] cpos) X.env = (do
      let ov ← eval (.Name x px) X.env
      standAt apos.atName
      let (f, first) ← holding [ov] (getMethod ov m pl)
      callWith cpos f first (backTo cpos (starEach (e :: es) X.env)) (backToKw cpos (keywordEach [] X.env))) := by rfl)
    (hsw : swapsWith (.Call (.Attribute (.Name x px) m apos) (e :: es) [] cpos) none pos.line X.env = pure false := by rfl) :
    VS X g W B rk O O (.Expr (.Call (.Attribute (.Name x px) m apos) (e :: es) [] cpos) pos) (dCallM i c h fs) :=
  ps_imp (ps_expr (pe_methW (pe_var hN hv hd hcd) C.cl hm Fo hr hb (fun σ => passAt tk σ) ha hst hpl ht) hsw) fun D σ H ⟨F, ρ, G, P⟩ => by
  obtain ⟨d0, o, h1, h2, p, h3, h4, me⟩ := slot_there G hO
  subst h4
  obtain ⟨c', st, dx, vs, m1, m2, m3, m4, m5⟩ := id me
  subst m1
  have P0 : PostS X.K g W B rk O F (match ρ[i]? with
    | some (.obj c' l) => if c' = c then rbind (fs ρ) fun ds => rbind (h (.obj c l :: ds)) fun d => (match d with
      | .tup [_, d1] => (rok (Fl.nx (ρ.set i d1)) : R Fl)
      | _ => none) else none
    | _ => none) D := P
  rw [h1] at P0
  have P0 : PostS X.K g W B rk O F (if c' = c then rbind (fs ρ) fun ds => rbind (h (.obj c st :: ds)) fun d => (match d with
      | .tup [_, d1] => (rok (Fl.nx (ρ.set i d1)) : R Fl)
      | _ => none) else none) D := P0
  by_cases hc : c' = c
  · subst hc
    rw [if_pos rfl] at P0
    have P := PostX.bind P0
    refine ⟨_, h2, p, dx, _, rfl, m2, zip_none hm0, F, ρ, G, PostX.mono P (fun _ z => erW z) fun ds e P1 ws F1 H1 G1 x1 r1 => ?_⟩
    have me1 : MeAt X.K g F1 H1 p (.obj c' st) := me.mono x1.f x1.h (by
      cases z : F1 p with
      | none => rfl
      | some o =>
        rcases x1.n p o z with u | u
        · rw [m5] at u; cases u
        · rw [m2] at u; cases u)
    have bm := hB p h3
    refine ⟨F1, p, .obj c' st, ds, ws, rfl, me1, G1.sub, hn ρ ds e, r1, PostX.mono (PostX.bind P1) (fun c z H' s => z σ H' fun a o e => s _ _ (by rw [er_ne (ne_of_none e bm)]; exact G1.b0 _ _ e)) fun d _ q v F' H' rg ro => ?_⟩
    obtain ⟨r, d1, p', rfl, e3, r2, me2⟩ := ro
    cases e3
    obtain ⟨_, _, _, _, _, k2, _, _, k5⟩ := me1
    exact q F' σ H' (G1.writeM h3 bm hO hu k5 ⟨_, _, _, k2⟩ rg.1.f rg.1.h rg.2 rg.1.n me2) (x1.f.trans rg.1.f)
  · rw [if_neg hc] at P0; exact P0.elim
/-! ### new objects -/
def newD (c nf : Nat) : Dt → R Dt
  | .tup [.non, .obj c' l] => if c' = c ∧ l.length = nf then rok (.obj c l) else none
  | _ => none
theorem newD_inv {c nf : Nat} {r d1 : Dt} {er : Nat → Prop} {ok : Dt → Prop} (P : PostX er (newD c nf (.tup [r, d1])) ok) : ∃ l, r = .non ∧ d1 = .obj c l ∧ l.length = nf ∧ ok (.obj c l) := by
  cases r <;> first | exact False.elim P | skip
  cases d1 <;> first | exact False.elim P | skip
  rename_i c' l
  have P1 : PostX er (if c' = c ∧ l.length = nf then rok (.obj c l) else none) ok := P
  by_cases h : c' = c ∧ l.length = nf
  · rw [if_pos h] at P1
    exact ⟨l, rfl, by rw [h.1], h.2, P1⟩
  · rw [if_neg h] at P1; exact P1.elim
def dNew (c nf : Nat) (h : List Dt → R Dt) (fs : List Dt → R (List Dt)) : List Dt → R Dt := fun ρ => rbind (fs ρ) fun ds => rbind (h (.obj c [] :: ds)) (newD c nf)
theorem make_core {c nf n : Nat} {h : List Dt → R Dt} (hnf : (g.oN c).length = nf) (hn : ∀ (ρ : List Dt) (ds : List Dt), fs ρ = some (.ok ds) → ds.length = n) (σ : St) (H : Hp) (Q : VK) (P : tE X.K g W B O .fz (dNew c nf h fs) σ H Q) :
    tMakeW (g.oC c) (spM X.K g n h) (WE W) (tA X.K g W B O .fz fs) σ H Q := by
  obtain ⟨F, ρ, G, P⟩ := P
  refine ⟨F, ρ, G, PostX.mono (PostX.bind P) (fun _ z => z) fun ds e P1 vs F1 H1 G1 x1 r1 => ?_⟩
  intro x dx hx hdx ne
  have hx' : (upd H1 dx (.own x)) x = none := by rw [upd_ne (Ne.symm ne)]; exact hx
  have s12 : Same H1 (upd (upd H1 dx (.own x)) x (.ins (g.oC c) dx [])) := (same_upd hdx).trans (same_upd hx')
  have me0 : MeAt X.K g F1 (upd (upd H1 dx (.own x)) x (.ins (g.oC c) dx [])) x (.obj c []) := ⟨c, [], dx, [], rfl, by rw [upd_same, List.zip_nil_right], Nat.zero_le _, reps_nil, G1.fnone hx⟩
  have sH : ∀ H' : Hp, Same (er (upd (upd H1 dx (.own x)) x (.ins (g.oC c) dx [])) x) H' → Same H1 H' := fun H' s a o e => s _ _ (by rw [er_ne (ne_of_none e hx)]; exact s12 _ _ e)
  refine ⟨F1, x, .obj c [], ds, vs, rfl, me0, G1.sub.trans s12, hn ρ ds e, r1, PostX.mono (PostX.bind P1) (fun c z H' s => z F1 H' (G1.grow (fun _ _ z => z) (sH H' s) (G1.sub.trans (sH H' s)) fun _ _ z => .inl z) x1.f) fun d _ q v F' H' rg ro => ?_⟩
  obtain ⟨r, d1, p', rfl, e3, r2, me2⟩ := ro
  cases e3
  obtain ⟨l, rfl, rfl, hl, q⟩ := newD_inv q
  obtain ⟨c', st, dx', ws, m1, m2, m3, m4, m5⟩ := me2
  cases m1
  have hwl := reps_len m4
  have sF : Same F' (upd F' x (.ins (g.oC c) dx' ((g.oN c).zip ws))) := same_upd m5
  have hnew : ∀ (a : Addr) (o : HO), (upd F' x (.ins (g.oC c) dx' ((g.oN c).zip ws))) a = some o → F1 a = some o ∨ H1 a = none := fun a o e => by
    by_cases ha : a = x
    · subst ha; exact .inr hx
    · rw [upd_ne ha] at e
      rcases rg.1.n a o e with z | z
      · exact .inl z
      · refine .inr ?_
        have z : er (upd (upd H1 dx (.own x)) x (.ins (g.oC c) dx [])) x a = none := z
        rw [er_ne ha] at z
        exact s12.free z
  have hsub : Same (upd F' x (.ins (g.oC c) dx' ((g.oN c).zip ws))) H' := fun a o e => by
    by_cases ha : a = x
    · subst ha; rw [upd_same] at e; rw [m2]; exact e
    · rw [upd_ne ha] at e; exact rg.2 _ _ e
  have G2 := G1.grow (F' := upd F' x (.ins (g.oC c) dx' ((g.oN c).zip ws))) (rg.1.f.trans sF) (sH H' rg.1.h) hsub hnew
  refine ⟨by simpa [Rep] using r2, q _ _ H' G2 (x1.trans ⟨rg.1.f.trans sF, sH H' rg.1.h, hnew⟩) ?_⟩
  show Rep _ _ _ _ _
  rw [Rep]
  exact ⟨x, dx', ws, rfl, upd_same, by omega, reps_mono sF _ _ m4⟩
section
variable {k n : Nat} {fa : Addr} {fd : FuncData} {ps : List Str} {h : List Dt → R Dt} {x : Str}
theorem v_new (c nf : Nat) (tk : Takes X W) (M : Mk X.K (g.oC c) fa) (Fo : FnOk X.prog X.w X.K X.mg X.base (L2.CX X.prog X.w) k fa fd ps (spM X.K g n h)) (hr : Room (k + 1) X.A) (hm : X.mg x = some (.ref (g.oC c))) (hb : Binds X.K fd ps []) (ha : VA X g W B O .fz (e :: es) fs)
    (hn : ∀ (ρ : List Dt) (ds : List Dt), fs ρ = some (.ok ds) → ds.length = n) (hnf : (g.oN c).length = nf := by rfl) (hg : Gl X x := by rfl) (hdb : (x == ("__debug__" : Str)) = false := by decide)
    (he : starEach (e :: es) X.env = (false, eval e X.env) :: starEach es X.env := by rfl) (hpl : (backTo pos (starEach es X.env)).any (·.1) = false := by rfl) : VE X g W B O .fz (.Call (.Name x p0) (e :: es) [] pos) (dNew c nf h fs) :=
  pe_imp (pe_makeW M Fo hr hg hm hb (fun σ => passAt tk σ) ha hdb he hpl) fun σ H Q P => make_core hnf hn σ H Q P
end
end
section
variable {X : Cx} {g : Cfg} {W : WX} {B : Base} {O O1 O2 O' : List SK} {pos p0 apos : Pos} {kd : Kd} {rk : RK} {a b c e : Expr} {es : List Expr} {f f1 f2 f3 : List Dt → R Dt} {fs : List Dt → R (List Dt)} {p p1 p2 : List Dt → R Bool} {s s1 s2 : List Dt → R Fl} {st : Stmt} {rest : List Stmt}
/-! ### a constructor that is handed a list and does not keep it -/
theorem v_varB (i : Nat) {x : Str} (hO : O[i]? = some .bo := by rfl) (hN : X.N[i]? = some x := by rfl) (hv : Vis X.env.scope x := by first | exact Or.inl rfl | exact Or.inr (Or.inl rfl) | exact Or.inr (Or.inr rfl)) (hd : (x == ("__debug__" : Str)) = false := by decide)
    (hcd : (x == ("__classdict__" : Str)) = false := by decide) : VE X g W B O .ct (.Name x pos) (dVar i) :=
  pe_imp (pe_var hN hv hd hcd) fun σ H Q ⟨F, ρ, G, P⟩ => by
    obtain ⟨d, o, h1, h2, q, ws, l, e1, e2, e3, e4⟩ := slot_there G hO
    subst e1 e2
    have e : dVar i ρ = some (.ok (.lst l)) := by unfold dVar; rw [h1]; rfl
    rw [e] at P
    exact ⟨_, h2, post_ok G P ⟨q, ws, rfl, G.b0 _ _ e3, e4⟩⟩
def spMB (K : PySem.W.Frag) (g : Cfg) (h : List Dt → R Dt) : Sp := fun vs H Q E => ∃ F p d0 q ws l, vs = [.ref p, .ref q] ∧ MeAt K g F H p d0 ∧ Same F H ∧ H q = some (.lst ws) ∧ Reps K g F l ws ∧
  PostX (fun c => ∀ H', Same (er H p) H' → E (.ref (g.cA c)) none H') (h [d0, .lst l]) fun d => ∀ v F' H', RetG ⟨er H p, F, some p⟩ F' H' → RetOk K g ⟨er H p, F, some p⟩ F' H' .mu d v → Q v H'
theorem good_startMB {K : PySem.W.Frag} {F H : Hp} {N : List Str} {l : List Dt} {d0 : Dt} {p q : Addr} {ws : List V} {m : Nat} (sub : Same F H) (hN : N.length = 2 + m) (hq : H q = some (.lst ws)) (r : Reps K g F l ws) (me : MeAt K g F H p d0) :
    Good K g ⟨er H p, F, some p⟩ (.me :: .bo :: List.replicate m .un) F ([d0, .lst l] ++ List.replicate m .non) (L2.start N [.ref p, .ref q]) H := by
  have hm : N.length - ([V.ref p, V.ref q] : List V).length = m := by show N.length - 2 = m; omega
  have hst : L2.start N [.ref p, .ref q] = some (.ref p) :: some (.ref q) :: List.replicate m none := by unfold L2.start; rw [hm]; rfl
  have ne : q ≠ p := fun e => me.ne hq e.symm
  refine ⟨?_, ?_, er_same, fun _ _ z => z, sub, fun _ _ z => .inl z, ?_, ?_⟩
  · rw [hst]; simp
  · rw [hst]; simp
  · intro i k d o h1 h2 h3
    rw [hst] at h3
    match i, h1, h2, h3 with
    | 0, h1, h2, h3 =>
      have h1 : some SK.me = some k := h1
      have h2 : some d0 = some d := h2
      have h3 : some (some (V.ref p)) = some o := h3
      cases h1; cases h2; cases h3
      exact ⟨p, rfl, rfl, me⟩
    | 1, h1, h2, h3 =>
      have h1 : some SK.bo = some k := h1
      have h2 : some (Dt.lst l) = some d := h2
      have h3 : some (some (V.ref q)) = some o := h3
      cases h1; cases h2; cases h3
      exact ⟨q, ws, l, rfl, rfl, by show er H p q = _; rw [er_ne ne]; exact hq, r⟩
    | i + 2, h1, h2, h3 =>
      have h1 : (List.replicate m SK.un)[i]? = some k := by simpa using h1
      rw [List.getElem?_replicate] at h1
      split at h1
      · cases h1; trivial
      · cases h1
  · intro i j a h1 h2 _ _
    exfalso
    have : SK.own ∈ (SK.me :: SK.bo :: List.replicate m SK.un) := List.mem_of_getElem? h1
    simp at this
section
variable {P : Program} {w : World} {K : PySem.W.Frag} {mg : Str → Option Value} {base : Heap}
theorem fn_valMB {x qual : Str} {st : Stmt} {fa : Addr} {fd : FuncData} {N ps : List Str} {k m : Nat} {O1 : List SK} {sd : List Dt → R Fl} (Fu : Fun K x qual st fa fd) (S : FnScope N ps (defScope st)) (hn : ps.length = 2) (hN : N.length = 2 + m)
    (hb : ∀ (cdv : Value) (A : Around) (outer : List Env) (s : Shared) (H F : Hp) (p : Addr) (E : XK), Room k (A.deeper (envOfC qual (defScope st) s.heap.objs.size fa cdv)) → Takes (cxOf (L2.CX P w) P w K mg base N qual (defScope st) fa cdv A outer s H E) (fun cls d _ H => E cls d H) →
      VSs (cxOf (L2.CX P w) P w K mg base N qual (defScope st) fa cdv A outer s H E) g (fun cls d _ H => E cls d H) ⟨er H p, F, some p⟩ .mu (.me :: .bo :: List.replicate m .un) O1 (defBody st) sd) (h0 : O1 = [] ∨ O1[0]? = some .me) : FnOk P w K mg base (L2.CX P w) (k + 1) fa fd ps (spMB K g (dFnM m sd)) := by
  refine Fu.okX S (fun vs H Q E h => ?_) fun cdv A outer s H vs Q E hr h => ?_
  · obtain ⟨F, p, d0, q, ws, l, rfl, _⟩ := h
    rw [hn]; rfl
  · obtain ⟨F, p, d0, q, ws, l, rfl, me, sub, hq, r, post⟩ := h
    refine ⟨_, hb cdv A outer s H F p E hr (takes_of rfl rfl rfl rfl), ?_⟩
    refine ⟨F, _, good_startMB sub hN hq r me, PostX.mono (PostX.bind post) (fun c z σ' H' s => z H' s) fun fl _ q => ?_⟩
    cases fl with
    | nx ρ' =>
      intro F' σ' H' G' s'
      rcases h0 with h0 | h0
      · have e1 := G'.lenO
        have e2 := G'.lenR
        subst h0
        have q : PostX (fun c => ∀ H', Same (er H p) H' → E (.ref (g.cA c)) none H') (match ρ'[0]? with | some d0 => (rok (Dt.tup [Dt.non, d0]) : R Dt) | none => none) _ := q
        have : ρ'[0]? = none := List.getElem?_eq_none_iff.mpr (by rw [e2, ← e1]; exact Nat.le_refl _)
        rw [this] at q
        exact q.elim
      · obtain ⟨d1, o, h1, h2, p', h3, h4, m'⟩ := slot_there G' h0
        cases h3
        have q : PostX (fun c => ∀ H', Same (er H p) H' → E (.ref (g.cA c)) none H') (match ρ'[0]? with | some d0 => (rok (Dt.tup [Dt.non, d0]) : R Dt) | none => none) _ := q
        rw [h1] at q
        exact q .non F' H' G'.ret ⟨.non, d1, p, rfl, rfl, rep_non (K := K) (g := g) (F := F'), m'⟩
    | rt d => exact fun v F' H' rg ro => q v F' H' rg ro
end
def lst1 : List Dt → R (List Dt)
  | [.lst l] => rok [.lst l]
  | _ => none
def dNewB (c nf : Nat) (h : List Dt → R Dt) (fs : List Dt → R (List Dt)) : List Dt → R Dt := fun ρ => rbind (fs ρ) fun ds => rbind (lst1 ds) fun ds => rbind (h (.obj c [] :: ds)) (newD c nf)
theorem make_coreB {c nf : Nat} {h : List Dt → R Dt} (hnf : (g.oN c).length = nf) (σ : St) (H : Hp) (Q : VK) (P : tE X.K g W B O .fz (dNewB c nf h fs) σ H Q) :
    tMakeW (g.oC c) (spMB X.K g h) (WE W) (tA X.K g W B O .ct fs) σ H Q := by
  obtain ⟨F, ρ, G, P⟩ := P
  refine ⟨F, ρ, G, PostX.mono (PostX.bind P) (fun _ z => z) fun ds e P1 vs F1 H1 G1 x1 r1 => ?_⟩
  intro x dx hx hdx ne
  have hx' : (upd H1 dx (.own x)) x = none := by rw [upd_ne (Ne.symm ne)]; exact hx
  have s12 : Same H1 (upd (upd H1 dx (.own x)) x (.ins (g.oC c) dx [])) := (same_upd hdx).trans (same_upd hx')
  have me0 : MeAt X.K g F1 (upd (upd H1 dx (.own x)) x (.ins (g.oC c) dx [])) x (.obj c []) := ⟨c, [], dx, [], rfl, by rw [upd_same, List.zip_nil_right], Nat.zero_le _, reps_nil, G1.fnone hx⟩
  have sH : ∀ H' : Hp, Same (er (upd (upd H1 dx (.own x)) x (.ins (g.oC c) dx [])) x) H' → Same H1 H' := fun H' s a o e => s _ _ (by rw [er_ne (ne_of_none e hx)]; exact s12 _ _ e)
  match ds, P1, r1 with
  | [.lst l], P1, r1 =>
    have r1 : RepsC X.K g F1 H1 [.lst l] vs := r1
    obtain ⟨v, r, rfl, ⟨q, ws, rfl, hq, hr⟩, hz⟩ := r1
    have hz : r = [] := hz
    subst hz
    have P1 : PostX (ErE X.K g W B O F ρ σ) (rbind (h [.obj c [], .lst l]) (newD c nf)) _ := P1
    refine ⟨F1, x, .obj c [], q, ws, l, rfl, me0, G1.sub.trans s12, s12 _ _ hq, hr, PostX.mono (PostX.bind P1) (fun c z H' s => z F1 H' (G1.grow (fun _ _ z => z) (sH H' s) (G1.sub.trans (sH H' s)) fun _ _ z => .inl z) x1.f) fun d _ q v F' H' rg ro => ?_⟩
    obtain ⟨r, d1, p', rfl, e3, r2, me2⟩ := ro
    cases e3
    obtain ⟨l, rfl, rfl, hl, q⟩ := newD_inv q
    obtain ⟨c', st, dx', ws, m1, m2, m3, m4, m5⟩ := me2
    cases m1
    have hwl := reps_len m4
    have sF : Same F' (upd F' x (.ins (g.oC c) dx' ((g.oN c).zip ws))) := same_upd m5
    have hnew : ∀ (a : Addr) (o : HO), (upd F' x (.ins (g.oC c) dx' ((g.oN c).zip ws))) a = some o → F1 a = some o ∨ H1 a = none := fun a o e => by
      by_cases ha : a = x
      · subst ha; exact .inr hx
      · rw [upd_ne ha] at e
        rcases rg.1.n a o e with z | z
        · exact .inl z
        · refine .inr ?_
          have z : er (upd (upd H1 dx (.own x)) x (.ins (g.oC c) dx [])) x a = none := z
          rw [er_ne ha] at z
          exact s12.free z
    have hsub : Same (upd F' x (.ins (g.oC c) dx' ((g.oN c).zip ws))) H' := fun a o e => by
      by_cases ha : a = x
      · subst ha; rw [upd_same] at e; rw [m2]; exact e
      · rw [upd_ne ha] at e; exact rg.2 _ _ e
    have G2 := G1.grow (F' := upd F' x (.ins (g.oC c) dx' ((g.oN c).zip ws))) (rg.1.f.trans sF) (sH H' rg.1.h) hsub hnew
    refine ⟨by simpa [Rep] using r2, q _ _ H' G2 (x1.trans ⟨rg.1.f.trans sF, sH H' rg.1.h, hnew⟩) ?_⟩
    show Rep _ _ _ _ _
    rw [Rep]
    exact ⟨x, dx', ws, rfl, upd_same, by omega, reps_mono sF _ _ m4⟩
  | [], P1, _ => exact P1.elim
  | a :: b :: c, P1, _ => exact False.elim (by cases a <;> exact P1)
  | [.non], P1, _ => exact P1.elim
  | [.bl _], P1, _ => exact P1.elim
  | [.int _], P1, _ => exact P1.elim
  | [.str _], P1, _ => exact P1.elim
  | [.tup _], P1, _ => exact P1.elim
  | [.obj _ _], P1, _ => exact P1.elim
  | [.scr _], P1, _ => exact P1.elim
  | [.exc _], P1, _ => exact P1.elim
  | [.dct _ _], P1, _ => exact P1.elim
theorem v_newB {k : Nat} {fa : Addr} {fd : FuncData} {ps : List Str} {h : List Dt → R Dt} {x : Str} (c nf : Nat) (tk : Takes X W) (M : Mk X.K (g.oC c) fa) (Fo : FnOk X.prog X.w X.K X.mg X.base (L2.CX X.prog X.w) k fa fd ps (spMB X.K g h)) (hr : Room (k + 1) X.A) (hm : X.mg x = some (.ref (g.oC c))) (hb : Binds X.K fd ps []) (ha : VA X g W B O .ct (e :: es) fs)
    (hnf : (g.oN c).length = nf := by rfl) (hg : Gl X x := by rfl) (hdb : (x == ("__debug__" : Str)) = false := by decide)
    (he : starEach (e :: es) X.env = (false, eval e X.env) :: starEach es X.env := by rfl) (hpl : (backTo pos (starEach es X.env)).any (·.1) = false := by rfl) : VE X g W B O .fz (.Call (.Name x p0) (e :: es) [] pos) (dNewB c nf h fs) :=
  pe_imp (pe_makeW M Fo hr hg hm hb (fun σ => passAt tk σ) ha hdb he hpl) fun σ H Q P => make_coreB hnf σ H Q P
/-! ### E.append(x), E a new list that nobody keeps -/
def tApp (ρ : List Dt) : Dt → List Dt → R Fl
  | .lst l, [_] => if l.length < 16777216 then rok (.nx ρ) else none
  | _, _ => none
def dTApp (f1 f2 : List Dt → R Dt) : List Dt → R Fl := fun ρ => rbind (f1 ρ) fun d => rbind (aCons f2 aNil ρ) fun ds => tApp ρ d ds
theorem vs_tapp {cpos : Pos} (ha : VE X g W B O .own a f1) (hb : VE X g W B O .fz e f2) (hbase : attributeBase a "append" X.env (eval a X.env) = eval a X.env := by rfl)
    (hfew : ((backTo cpos (starEach [e] X.env)).all (fun x => !x.1) && (backToKw cpos (keywordEach [] X.env)).all (fun x => x.1.isSome)
      && decide ([e].length + ([] : List Keyword).length + (if ([] : List Keyword).isEmpty then 0 else 1) < 30)) = true := by rfl)
    (hline : (apos.endLine == cpos.line) = true := by rfl) (hs : starEach [e] X.env = (false, eval e X.env) :: starEach [] X.env := by rfl) (hplain : (backTo cpos (starEach [] X.env)).any (·.1) = false := by rfl)
    (hsw : swapsWith (.Call (.Attribute a "append" apos) [e] [] cpos) none pos.line X.env = pure false := by rfl) :
    VS X g W B rk O O (.Expr (.Call (.Attribute a "append" apos) [e] [] cpos) pos) (dTApp f1 f2) :=
  ps_imp (ps_expr (pe_bm PySem.F.plainAttrs_list PySem.F.slot_list_append PySem.F.type_list_append mt_append ha (va_consF hb va_nil hs) hbase hfew hline hs hplain) hsw) fun D σ H ⟨F, ρ, G, P⟩ =>
  tE_then G P fun d v F1 H1 e1 G1 x1 r1 P1 => by
    obtain ⟨⟨p, vs, l, rfl, rfl, h3, h4, h5, h6⟩, ap, fr⟩ := r1
    refine ⟨.inl ⟨rfl, _, SqL.of h3⟩, F1, ρ, G1, PostX.mono (PostX.bind P1) (fun _ z => erW z) fun ds e P2 ws F2 H2 G2 x2 r2 => ?_⟩
    have r2 : Reps X.K g F2 ds ws := r2
    match ds, P2, r2 with
    | [y], P2, r2 =>
      rw [Reps] at r2
      obtain ⟨yv, r, rfl, h7, h8⟩ := r2
      rw [Reps] at h8
      subst h8
      have P2 : PostX (ErW g W B) (if l.length < 16777216 then rok (Fl.nx ρ) else none) _ := P2
      by_cases c : l.length < 16777216
      · rw [if_pos c] at P2
        have hF2 : F2 p = none := by
          cases z : F2 p with
          | none => rfl
          | some o =>
            rcases x2.n p o z with u | u
            · rw [h4] at u; cases u
            · rw [h3] at u; cases u
        exact ⟨p, vs, yv, rfl, rfl, x2.h _ _ h3, by rw [← reps_len h6, sizeLine_eq]; exact c, P2 F2 σ _ (G2.writeN (x2.h _ _ h3) hF2 h5 ap) (x1.f.trans x2.f)⟩
      · rw [if_neg c] at P2; exact P2.elim
    | [], P2, _ => exact P2.elim
    | _ :: _ :: _, P2, _ => exact P2.elim
end
end VL

set_option Elab.async false
set_option linter.all false
set_option maxRecDepth 100000
set_option maxHeartbeats 4000000
namespace VL
open PySem PySem.Spec PyProof.Rows L2
theorem fn_none {P : Program} {w : World} {K : PySem.W.Frag} {mg : Str → Option Value} {base : Heap} {CX : CXT} {g : Cfg} {fa : Addr} {fd : FuncData} {ps : List Str} {k n : Nat} {rk : RK} (hn : ps.length = n) : FnOk P w K mg base CX k fa fd ps (spV K g n rk fun _ => none) :=
  ⟨fun vs H Q E ⟨F, ds, _, hl, r, _⟩ => by rw [← reps_len r, hl, hn], fun A outer s H args us vs Q E _ _ _ _ ⟨F, ds, _, _, _, post⟩ => post.elim⟩
/-! ### dicts -/
def dGetD (ks : List Str) (l : List Dt) (s : Str) : Option Dt := ((ks.zip l).find? fun p => decide (p.1 = s)).map (·.2)
theorem valV_dct {K : PySem.W.Frag} {g : Cfg} {F : Hp} (s : Str) : ∀ {ks : List Str} {l : List Dt} {vs : List V}, Reps K g F l vs → (dGetD ks l s = none ∧ valV ((ks.map (Sum.inr : Str → Key)).zip vs) (Sum.inr s) = none) ∨ ∃ d v, dGetD ks l s = some d ∧ valV ((ks.map (Sum.inr : Str → Key)).zip vs) (Sum.inr s) = some v ∧ Rep K g F d v
  | [], l, vs, _ => .inl ⟨rfl, rfl⟩
  | k :: ks, [], vs, h => by
    rw [Reps] at h
    subst h
    exact .inl ⟨rfl, rfl⟩
  | k :: ks, d :: l, vs, h => by
    rw [Reps] at h
    obtain ⟨v, r, rfl, h1, h2⟩ := h
    by_cases c : k = s
    · subst c
      refine .inr ⟨d, v, ?_, ?_, h1⟩
      · simp [dGetD]
      · rw [List.map_cons, List.zip_cons_cons]
        exact valV_pos rfl
    · have e1 : dGetD (k :: ks) (d :: l) s = dGetD ks l s := by simp [dGetD, List.find?_cons, c]
      have e2 : valV (((k :: ks).map (Sum.inr : Str → Key)).zip (v :: r)) (Sum.inr s) = valV ((ks.map (Sum.inr : Str → Key)).zip r) (Sum.inr s) := by
        rw [List.map_cons, List.zip_cons_cons]
        exact valV_neg fun e => c (Sum.inr.inj e)
      rw [e1, e2]
      exact valV_dct s h2
theorem putK_new {k : Key} {v : V} : ∀ {kvs : List (Key × V)}, (∀ p ∈ kvs, p.1 ≠ k) → putK kvs k v = kvs ++ [(k, v)] := fun {kvs} h => by
  unfold putK
  rw [if_neg]
  intro e
  obtain ⟨p, hp, q⟩ := List.any_eq_true.mp e
  exact h p hp (of_decide_eq_true q)
theorem mergeK_new : ∀ (more acc : List (Key × V)), ((acc ++ more).map (·.1)).Nodup → mergeK acc more = acc ++ more
  | [], acc, _ => by show acc = acc ++ []; rw [List.append_nil]
  | (k, v) :: more, acc, h => by
    show mergeK (putK acc k v) more = _
    have hn : ∀ p ∈ acc, p.1 ≠ k := fun p hp e => by
      rw [List.map_append, List.nodup_append] at h
      exact h.2.2 p.1 (List.mem_map.mpr ⟨p, hp, rfl⟩) k (by simp) e
    rw [putK_new hn, mergeK_new more (acc ++ [(k, v)]) (by rw [List.append_assoc]; exact h), List.append_assoc]
    rfl
section
variable {X : Cx} {g : Cfg} {W : WX} {B : Base} {O O1 O2 O' : List SK} {pos p0 apos cpos : Pos} {kd : Kd} {rk : RK} {a b c e : Expr} {es : List Expr} {f f1 f2 f3 : List Dt → R Dt} {fs : List Dt → R (List Dt)} {p p1 p2 : List Dt → R Bool} {s s1 s2 : List Dt → R Fl} {st : Stmt} {rest : List Stmt}
def VP (X : Cx) (g : Cfg) (W : WX) (B : Base) (O : List SK) (pos : Pos) (keys : List (Option Expr)) (values : List Expr) (ks : List Str) (f : List Dt → R (List Dt)) : Prop :=
  ∃ trs, PPs X pos keys values trs ∧ ∀ σ H Q, tA X.K g W B O .fz f σ H (fun vs H' => Q ((ks.map V.str).zip vs) H') → tPairs trs σ H Q
theorem vp_nil : VP X g W B O pos [] [] [] aNil := ⟨[], pps_nil, fun σ H Q ⟨F, ρ, G, P⟩ => P [] F H G (Ext.refl _ _) (reps_nil (K := X.K) (g := g) (H := F))⟩
theorem vp_cons {keys : List (Option Expr)} {values : List Expr} {ks : List Str} {k : Str} {j : Nat} {kp : Pos} (hv : VE X g W B O .fz a f) (hr : VP X g W B O pos keys values ks fs) : VP X g W B O pos (some (.Constant (.str k) j kp) :: keys) (a :: values) (k :: ks) (aCons f fs) := by
  obtain ⟨trs, h1, h2⟩ := hr
  refine ⟨(tC (.str k), tE X.K g W B O .fz f) :: trs, pps_cons pe_str hv h1, fun σ H Q ⟨F, ρ, G, P⟩ => ?_⟩
  show tE X.K g W B O .fz f σ H _
  refine tE_then G P fun d v F1 H1 e1 G1 x1 r1 P1 => ?_
  refine h2 σ H1 _ ⟨F1, ρ, G1, PostX.mono (PostX.bind P1) (fun _ z => erM x1.f z) fun ds _ P2 vs F2 H2 G2 x2 r2 => ?_⟩
  exact P2 (v :: vs) F2 H2 G2 (x1.trans x2) (reps_cons (rep_mono x2.f _ _ r1) r2)
def dDct (ks : List Str) (fs : List Dt → R (List Dt)) : List Dt → R Dt := fun ρ => rbind (fs ρ) fun ds => if ds.length = ks.length ∧ ks.length ≤ 15 then rok (.dct ks ds) else none
theorem kv_zip : ∀ (ks : List Str) (vs : List V), (ks.map V.str).zip vs = ((ks.map (Sum.inr : Str → Key)).zip vs).map fun kv => (kV kv.1, kv.2)
  | [], vs => by simp
  | k :: ks, [] => by simp
  | k :: ks, v :: vs => by
    rw [List.map_cons, List.zip_cons_cons, List.map_cons, List.zip_cons_cons, List.map_cons, kv_zip ks vs]
    rfl
theorem v_disp {keys : List (Option Expr)} {values : List Expr} {ks : List Str} (h : VP X g W B O pos keys values ks fs) (hnd : ks.Nodup := by decide) (hall : keys.all (·.isSome) = true := by rfl) (hl : keys.length = values.length := by rfl) (h0 : keys ≠ [] := by simp)
    (h15 : keys.length ≤ 15 := by decide) : VE X g W B O .fz (.Dict keys values pos) (dDct ks fs) := by
  obtain ⟨trs, hp, ht⟩ := h
  refine pe_imp (pe_disp hp hall hl h0 h15) fun σ H Q ⟨F, ρ, G, P⟩ => ?_
  intro p hp
  refine ht σ _ _ ⟨F, ρ, G.alloc hp, PostX.mono (PostX.bind P) (fun _ z => z) fun ds _ P1 vs F1 H1 G1 x1 r1 => ?_⟩
  have r1 : Reps X.K g F1 ds vs := r1
  by_cases c : ds.length = ks.length ∧ ks.length ≤ 15
  · rw [if_pos c] at P1
    have hlen := reps_len r1
    have hH1p : H1 p = some (.dK []) := x1.h _ _ upd_same
    have hF1p : F1 p = none := by
      cases z : F1 p with
      | none => rfl
      | some o =>
        rcases x1.n p o z with u | u
        · rw [G.fnone hp] at u; cases u
        · rw [upd_same] at u; cases u
    refine ⟨hH1p, (ks.map (Sum.inr : Str → Key)).zip vs, kv_zip ks vs, by rw [List.length_zip, List.length_map]; omega, ?_⟩
    have em : mergeK [] ((ks.map (Sum.inr : Str → Key)).zip vs) = (ks.map (Sum.inr : Str → Key)).zip vs := by
      have hn : ((ks.map (Sum.inr : Str → Key)).zip vs).map (·.1) = ks.map (Sum.inr : Str → Key) := by
        rw [List.map_fst_zip (by rw [List.length_map]; omega)]
      have := mergeK_new ((ks.map (Sum.inr : Str → Key)).zip vs) [] (by
        rw [List.nil_append, hn]
        exact List.Pairwise.map _ (fun a b (hab : a ≠ b) (e : (Sum.inr a : Key) = Sum.inr b) => hab (Sum.inr.inj e)) hnd)
      rw [this, List.nil_append]
    rw [em]
    have sH : Same H (upd H1 p (.dK ((ks.map (Sum.inr : Str → Key)).zip vs))) := fun b o e => by
      rw [upd_ne (ne_of_none e hp)]
      exact x1.h _ _ (by rw [upd_ne (ne_of_none e hp)]; exact e)
    have sF : Same F (upd F1 p (.dK ((ks.map (Sum.inr : Str → Key)).zip vs))) := x1.f.trans (same_upd hF1p)
    have sub : Same (upd F1 p (.dK ((ks.map (Sum.inr : Str → Key)).zip vs))) (upd H1 p (.dK ((ks.map (Sum.inr : Str → Key)).zip vs))) := fun b o e => by
      by_cases hb : b = p
      · subst hb; rw [upd_same] at e ⊢; exact e
      · rw [upd_ne hb] at e ⊢; exact G1.sub _ _ e
    have new : ∀ (b : Addr) (o : HO), (upd F1 p (.dK ((ks.map (Sum.inr : Str → Key)).zip vs))) b = some o → F b = some o ∨ H b = none := fun b o e => by
      by_cases hb : b = p
      · subst hb; exact .inr hp
      · rw [upd_ne hb] at e
        rcases x1.n b o e with u | u
        · exact .inl u
        · rw [upd_ne hb] at u; exact .inr u
    refine P1 _ _ _ (G.grow sF sH sub new) ⟨sF, sH, new⟩ ?_
    show Rep _ _ _ _ _
    rw [Rep]
    exact ⟨p, vs, rfl, upd_same, by omega, reps_mono (same_upd hF1p) _ _ r1⟩
  · rw [if_neg c] at P1; exact P1.elim
/-- d[k] of a dict -/
def dIxD : Dt → Dt → R Dt
  | .dct ks l, .str s => (dGetD ks l s).map Except.ok
  | _, _ => none
theorem v_dixD {k0 : Nat} (hr : Room k0 X.A) (ha : VE X g W B O .fz a f1) (hb : VE X g W B O .ct b f2) (hs : NoSl b := by exact fun _ _ => rfl) : VE X g W B O .fz (.Subscript a b pos) (d2 dIxD f1 f2) := pe_imp (pe_dget (hu_of hr) ha hb hs) fun σ H Q ⟨F, ρ, G, P⟩ =>
  tE_then G P fun d v F1 H1 e1 G1 x1 r1 P1 => tE_then G1 P1 fun d' v' F2 H2 e2 G2 x2 r2 P2 => by
    cases d <;> first | exact False.elim P2 | skip
    rename_i ks l
    cases d' <;> first | exact False.elim P2 | skip
    rename_i z
    have r1 : Rep X.K g F1 (.dct ks l) v := r1
    rw [Rep] at r1
    obtain ⟨q, vs, rfl, h1, h2, h3⟩ := r1
    obtain rfl : v' = .str z := ct_str r2
    have P2 : PostX (ErE X.K g W B O F ρ σ) ((dGetD ks l z).map Except.ok) _ := P2
    have hD : DGet H2 q (.str z) (valV ((ks.map (Sum.inr : Str → Key)).zip vs) (Sum.inr z)) := DGet.k (k := Sum.inr z) (G2.sub _ _ (x2.f _ _ h1))
    rcases valV_dct (ks := ks) z h3 with ⟨q1, q2⟩ | ⟨d', w, q1, q2, q3⟩
    · rw [q1] at P2; exact P2.elim
    · rw [q1] at P2
      rw [q2] at hD
      exact ⟨q, w, rfl, hD, P2 w F2 H2 G2 (x1.trans x2) (rep_mono x2.f _ _ q3)⟩
/-- d.get(k, x) -/
def dGet2 : Dt → Dt → Dt → R Dt
  | .dct ks l, .str s, z => rok ((dGetD ks l s).getD z)
  | _, _, _ => none
def d3v (h : Dt → Dt → Dt → R Dt) (f1 f2 f3 : List Dt → R Dt) : List Dt → R Dt := fun ρ => rbind (f1 ρ) fun d => (match d with | .dct ks l => rbind (f2 ρ) fun b => rbind (f3 ρ) fun c => h (.dct ks l) b c | _ => none)
theorem v_dget2 {k0 : Nat} (hr : Room k0 X.A) (ha : VE X g W B O .fz a f1) (hb : VE X g W B O .ct b f2) (hc : VE X g W B O .fz c f3) (m : M2 X a "get" apos b c cpos := by exact ⟨rfl, rfl, rfl, rfl⟩) : VE X g W B O .fz (.Call (.Attribute a "get" apos) [b, c] [] cpos) (d3v dGet2 f1 f2 f3) := pe_imp (pe_dget2 (hu_of hr) ha hb hc m) fun σ H Q ⟨F, ρ, G, P⟩ =>
  tE_then G P fun d v F1 H1 e1 G1 x1 r1 P1 => by
    cases d <;> first | exact False.elim P1 | skip
    rename_i ks l
    have r1 : Rep X.K g F1 (.dct ks l) v := r1
    rw [Rep] at r1
    obtain ⟨q, vs, rfl, h1, h2, h3⟩ := r1
    refine ⟨q, rfl, .inl ⟨_, .inl (G1.sub _ _ h1)⟩, tE_then G1 P1 fun d' v' F2 H2 e2 G2 x2 r2 P2 => ?_⟩
    have x12 := x1.trans x2
    refine tE_then G2 P2 (fun d3 v3 F3 H3 e3 G3 x3 r3 P3 => ?_) (fun _ z => erM x12.f z)
    cases d' <;> first | exact False.elim P3 | skip
    rename_i z
    obtain rfl : v' = .str z := ct_str r2
    have hD : DGet H3 q (.str z) (valV ((ks.map (Sum.inr : Str → Key)).zip vs) (Sum.inr z)) := DGet.k (k := Sum.inr z) (G3.sub _ _ ((x2.trans x3).f _ _ h1))
    have P3 : PostX (ErE X.K g W B O F ρ σ) (rok ((dGetD ks l z).getD d3)) _ := P3
    refine ⟨_, hD, ?_⟩
    rcases valV_dct (ks := ks) z h3 with ⟨q1, q2⟩ | ⟨d', w, q1, q2, q3⟩
    · rw [q1] at P3
      rw [q2]
      exact P3 v3 F3 H3 G3 (x12.trans x3) r3
    · rw [q1] at P3
      rw [q2]
      exact P3 w F3 H3 G3 (x12.trans x3) (rep_mono (x2.trans x3).f _ _ q3)
/-- t + u -/
def dCatT : Dt → Dt → R Dt
  | .tup a, .tup b => if a.length + b.length ≤ 16777216 then rok (.tup (a ++ b)) else none
  | _, _ => none
theorem o_catT : BOp X g W B O .Add .fz dCatT := ⟨_, op_catA, fun F ρ σ H d1 d2 x y Q G h1 h2 P => by
  cases d1 <;> cases d2 <;> first | exact False.elim P | skip
  rename_i a b
  by_cases c : a.length + b.length ≤ 16777216
  · have P' : Post X.K g W B O .fz (rok (.tup (a ++ b))) F ρ σ H Q := by
      have q : dCatT (.tup a) (.tup b) = rok (.tup (a ++ b)) := if_pos c
      rw [q] at P; exact P
    have h1' : Rep X.K g F (.tup a) x := h1
    have h2' : Rep X.K g F (.tup b) y := h2
    rw [Rep] at h1' h2'
    obtain ⟨p1, vs1, rfl, e1, r1⟩ := h1'
    obtain ⟨p2, vs2, rfl, e2, r2⟩ := h2'
    refine ⟨p1, p2, vs1, vs2, rfl, rfl, sqT_mono G.sub e1, sqT_mono G.sub e2, by rw [← reps_len r1, ← reps_len r2, sizeLine_eq]; exact c, fun e => ?_, fun _ e => ?_, fun _ _ p hp => post_newF G P' hp (reps_append r1 r2)⟩
    · have : a = [] := List.eq_nil_of_length_eq_zero (by rw [reps_len r1, e]; rfl)
      subst this
      exact post_ok G P' h2
    · have : b = [] := List.eq_nil_of_length_eq_zero (by rw [reps_len r2, e]; rfl)
      subst this
      rw [List.append_nil] at P'
      exact post_ok G P' h1
  · have q : dCatT (.tup a) (.tup b) = none := if_neg c
    rw [q] at P; exact False.elim P⟩
/-- a written dict of ints: what it gives at some words -/
structure DictW (K : PySem.W.Frag) (w : World) (mg : Str → Option Value) (x : Str) (tbl : List (Str × Option Int)) : Prop where
  ex : ∃ d es n, mg x = some (.ref d) ∧ KDict K w d es n ∧ ∀ q ∈ tbl, ∃ r, PySem.W.nsIn K d q.1 = some r ∧ match q.2 with
    | some i => ∃ t, r = some (.int i t)
    | none => r = none
def dGetW (tbl : List (Str × Option Int)) : Dt → R Dt
  | .str s => match tbl.find? fun q => decide (q.1 = s) with
    | some (_, some i) => rok (.int i)
    | some (_, none) => rok .non
    | none => none
  | _ => none
theorem v_dgetW {x : Str} {px : Pos} {tbl : List (Str × Option Int)} (T : DictW X.K X.w X.mg x tbl) (hb : VE X g W B O .ct b f) (hg : Gl X x := by rfl) (hd : (x == ("__debug__" : Str)) = false := by decide) (m : M1 X (.Name x px) "get" apos b cpos := by exact ⟨rfl, rfl, rfl, rfl⟩) :
    VE X g W B O .fz (.Call (.Attribute (.Name x px) "get" apos) [b] [] cpos) (d1 (dGetW tbl) f) := by
  obtain ⟨d, es, n, hm, D, ht⟩ := T.ex
  refine ⟨fun pins s σ H Q I h => ?_⟩
  have h0 : PE X (.Name x px) (tC (.ref d)) := pe_glob hg hm rfl hd
  refine wpAny_Call_method m.base m.few m.line PySem.F.plainAttrs_dict PySem.F.slot_dict_get PySem.F.type_dict_get (thn (h0.run pins s σ H (fun v H1 => v = .ref d ∧ H1 = H) I ⟨rfl, rfl⟩) fun u s1 ⟨x, H1, I1, rx, ex, eh⟩ => ?_)
  subst ex eh
  obtain rfl : u = Value.ref d := rx
  refine ⟨kd_type D I1, fun b e => ⟨_, I1.kIn _ _ (by cases e; exact D.at_), rfl⟩, ?_⟩
  rw [m.trees]
  obtain ⟨F, ρ, G, P⟩ := h
  refine Calls.callWith_builtin rfl (Calls.evalArgs_plain (Calls.spliced_cons (thn (hb.run pins s1 σ H1 (fun y H2 => ∃ z r v, y = .str z ∧ PySem.W.nsIn X.K d z = some r ∧ (match r with | some u => RelV v u | none => v = .non) ∧ Q v H2) I1 ⟨F, ρ, G, PostX.mono (PostX.bind P) (fun _ z => z) fun d' e P1 y F2 H2 G2 x2 r2 => ?_⟩) fun iv s2 ⟨y, H2, I2, ry, z, r, v, ey, hz, hr, q2⟩ => Calls.spliced_nil ?_)))
  · cases d' <;> first | exact False.elim P1 | skip
    rename_i z
    obtain rfl : y = .str z := ct_str r2
    have P1 : PostX (ErE X.K g W B O F ρ σ) (match tbl.find? fun q => decide (q.1 = z) with
      | some (_, some i) => (rok (Dt.int i) : R Dt)
      | some (_, none) => rok .non
      | none => none) _ := P1
    cases q : tbl.find? fun q => decide (q.1 = z) with
    | none => rw [q] at P1; exact P1.elim
    | some kv =>
      obtain ⟨k, o⟩ := kv
      have hk : k = z := of_decide_eq_true (List.find?_some (p := fun q : Str × Option Int => decide (q.1 = z)) q)
      obtain ⟨r, h1, h2⟩ := ht _ (List.mem_of_find?_eq_some q)
      subst hk
      rw [q] at P1
      cases o with
      | none =>
        have h2 : r = none := h2
        subst h2
        exact ⟨k, none, .non, rfl, h1, rfl, P1 .non F2 H2 G2 x2 ok_non⟩
      | some i =>
        obtain ⟨t, h2⟩ : ∃ t, r = some (.int i t) := h2
        subst h2
        exact ⟨k, _, .int i, rfl, h1, ⟨t, rfl⟩, P1 (.int i) F2 H2 G2 x2 ok_int⟩
  · subst ey
    obtain ⟨t, rfl⟩ := (show ∃ t, iv = Value.str z t from ry)
    refine call_meetsIn PySem.F.slot_dict_get (kd_type D I2) PySem.F.entry_dict_get (PySem.F.args_dict_get_2 _ _) (meets_dict_get (PySem.strKind X.prog X.w) d (PySem.strKind_is X.prog X.w z t) D.low) ⟨_, PySem.W.mapOf_K (prog := X.prog) I2.kIn D.at_ D.lit, ?_⟩
    rw [PySem.W.find_K D.at_ hz]
    refine ⟨v, H2, I2.tok _, ?_, q2⟩
    cases r with
    | none => rw [hr]; rfl
    | some u => exact hr
end
end VL

set_option Elab.async false
set_option linter.all false
set_option maxRecDepth 100000
set_option maxHeartbeats 4000000
namespace VL
open PySem PySem.Spec PyProof.Rows L2
/-! ### data without objects -/
mutual
def noObj : Dt → Bool
  | .non => true
  | .bl _ => true
  | .int _ => true
  | .str _ => true
  | .lst l => noObjs l
  | .tup l => noObjs l
  | _ => false
def noObjs : List Dt → Bool
  | [] => true
  | d :: ds => noObj d && noObjs ds
end
section
variable {K : PySem.W.Frag} {g : Cfg} {F : Hp} {p C dx : Addr} {fs : List (Str × V)}
mutual
theorem rep_er (hp : F p = some (.ins C dx fs)) : ∀ (d : Dt) (v : V), noObj d = true → Rep K g F d v → Rep K g (er F p) d v
  | .non, v, _, h => by simpa [Rep] using h
  | .bl _, v, _, h => by simpa [Rep] using h
  | .int _, v, _, h => by simpa [Rep] using h
  | .str _, v, _, h => by simpa [Rep] using h
  | .lst l, v, n, h => by
    rw [Rep] at h ⊢
    rw [noObj] at n
    obtain ⟨a, vs, rfl, h1, h2⟩ := h
    refine ⟨a, vs, rfl, ?_, reps_er hp l vs n h2⟩
    rw [er_ne (fun e => by rw [e, hp] at h1; cases h1)]; exact h1
  | .tup l, v, n, h => by
    rw [Rep] at h ⊢
    rw [noObj] at n
    obtain ⟨a, vs, rfl, h1, h2⟩ := h
    refine ⟨a, vs, rfl, ?_, reps_er hp l vs n h2⟩
    rcases h1 with (h1 | ⟨o, h1⟩) | h1
    · refine .inl (.inl ?_)
      rw [er_ne (fun e => by rw [e, hp] at h1; cases h1)]; exact h1
    · refine .inl (.inr ⟨o, ?_⟩)
      rw [er_ne (fun e => by rw [e, hp] at h1; cases h1)]; exact h1
    · exact .inr h1
  | .obj _ _, _, n, _ => by simp [noObj] at n
  | .scr _, _, n, _ => by simp [noObj] at n
  | .exc _, _, n, _ => by simp [noObj] at n
  | .dct _ _, _, n, _ => by simp [noObj] at n
theorem reps_er (hp : F p = some (.ins C dx fs)) : ∀ (l : List Dt) (vs : List V), noObjs l = true → Reps K g F l vs → Reps K g (er F p) l vs
  | [], vs, _, h => by rw [Reps] at h ⊢; exact h
  | d :: l, vs, n, h => by
    rw [Reps] at h ⊢
    rw [noObjs, Bool.and_eq_true] at n
    obtain ⟨v, r, rfl, h1, h2⟩ := h
    exact ⟨v, r, rfl, rep_er hp d v n.1 h1, reps_er hp l r n.2 h2⟩
end
end
section
variable {X : Cx} {g : Cfg} {W : WX} {B : Base} {O O1 O2 O' : List SK} {pos p0 apos : Pos} {kd : Kd} {rk : RK} {a b c e : Expr} {es : List Expr} {f f1 f2 f3 : List Dt → R Dt} {fs : List Dt → R (List Dt)} {p p1 p2 : List Dt → R Bool} {s s1 s2 : List Dt → R Fl} {st : Stmt} {rest : List Stmt}
/-! ### a reading method of an object that is not frozen: it is frozen for as long as the call lasts -/
def dMethR (i c nf : Nat) (h : List Dt → R Dt) (fs : List Dt → R (List Dt)) : List Dt → R Dt := fun ρ => match ρ[i]? with
  | some (.obj c' l) => if c' = c ∧ l.length = nf then rbind (fs ρ) fun ds => rbind (h (.obj c l :: ds)) fun d => if noObj d = true then rok d else none else none
  | _ => none
theorem methR_core {i c n nf : Nat} {m : Str} {h : List Dt → R Dt} (hO : O[i]? = some .me) (hnf : (g.oN c).length = nf) (hm : m ∉ g.oN c) (hn : ∀ (ρ : List Dt) (ds : List Dt), fs ρ = some (.ok ds) → ds.length = n) (σ : St) (H : Hp) (Q : VK) (P : tE X.K g W B O (rkK rk) (dMethR i c nf h fs) σ H Q) :
    tMethW (g.oC c) m (spV X.K g (n + 1) rk h) (WE W) (tVar i) (tA X.K g W B O .fz fs) σ H Q := by
  obtain ⟨F, ρ, G, P⟩ := P
  obtain ⟨d0, o, h1, h2, p, h3, h4, me⟩ := slot_there G hO
  subst h4
  obtain ⟨c', st, dx, vs, m1, m2, m3, m4, m5⟩ := id me
  subst m1
  have P0 : PostX (ErE X.K g W B O F ρ σ) (match ρ[i]? with
    | some (.obj c' l) => if c' = c ∧ l.length = nf then rbind (fs ρ) fun ds => rbind (h (.obj c l :: ds)) fun d => if noObj d = true then (rok d : R Dt) else none else none
    | _ => none) _ := P
  rw [h1] at P0
  have P0 : PostX (ErE X.K g W B O F ρ σ) (if c' = c ∧ st.length = nf then rbind (fs ρ) fun ds => rbind (h (.obj c st :: ds)) fun d => if noObj d = true then (rok d : R Dt) else none else none) _ := P0
  by_cases hc : c' = c ∧ st.length = nf
  · rw [if_pos hc] at P0
    obtain ⟨hc, hst⟩ := hc
    subst hc
    refine ⟨_, h2, p, dx, _, rfl, m2, zip_none hm, F, ρ, G, PostX.mono (PostX.bind P0) (fun _ z => z) fun ds e P1 ws F1 H1 G1 x1 r1 => ?_⟩
    have hF1 : F1 p = none := by
      cases z : F1 p with
      | none => rfl
      | some o =>
        rcases x1.n p o z with u | u
        · rw [m5] at u; cases u
        · rw [m2] at u; cases u
    have hH1 := x1.h _ _ m2
    have sFP : Same F1 (upd F1 p (.ins (g.oC c') dx ((g.oN c').zip vs))) := same_upd hF1
    have subP : Same (upd F1 p (.ins (g.oC c') dx ((g.oN c').zip vs))) H1 := fun a o e => by
      by_cases ha : a = p
      · subst ha; rw [upd_same] at e; rw [hH1]; exact e
      · rw [upd_ne ha] at e; exact G1.sub _ _ e
    have hvl : vs.length = (g.oN c').length := by rw [← reps_len m4, hst, hnf]
    have rme : Rep X.K g (upd F1 p (.ins (g.oC c') dx ((g.oN c').zip vs))) (.obj c' st) (.ref p) := by
      rw [Rep]
      exact ⟨p, dx, vs, rfl, upd_same, hvl, reps_mono (x1.f.trans sFP) _ _ m4⟩
    refine ⟨_, .obj c' st :: ds, subP, by rw [List.length_cons, hn ρ ds e], reps_cons rme (reps_mono sFP _ _ r1), PostX.mono (PostX.bind P1) (fun c z H' s => z F1 H' (G1.grow (fun _ _ z => z) s (G1.sub.trans s) fun _ _ z => .inl z) x1.f) fun d _ q v F' H' rg ro => ?_⟩
    have q : PostX (ErE X.K g W B O F ρ σ) (if noObj d = true then (rok d : R Dt) else none) _ := q
    by_cases hd : noObj d = true
    · rw [if_pos hd] at q
      have hp' : F' p = some (.ins (g.oC c') dx ((g.oN c').zip vs)) := rg.1.f _ _ upd_same
      have sF : Same F1 (er F' p) := fun a o e => by
        have ne : a ≠ p := fun z => by rw [z, hF1] at e; cases e
        rw [er_ne ne]
        exact rg.1.f _ _ (by show upd F1 p _ a = _; rw [upd_ne ne]; exact e)
      have sub' : Same (er F' p) H' := er_same.trans rg.2
      have new' : ∀ a o, (er F' p) a = some o → F1 a = some o ∨ H1 a = none := fun a o e => by
        by_cases ha : a = p
        · subst ha; rw [er_at] at e; cases e
        · rw [er_ne ha] at e
          rcases rg.1.n a o e with z | z
          · have z : (upd F1 p (.ins (g.oC c') dx ((g.oN c').zip vs))) a = some o := z
            rw [upd_ne ha] at z; exact .inl z
          · exact .inr z
      have ro' : RetOk X.K g ⟨H1, F1, none⟩ (er F' p) H' rk d v := by
        have own' : ∀ {d : Dt}, noObj d = true → Own X.K g ⟨H1, upd F1 p (.ins (g.oC c') dx ((g.oN c').zip vs)), none⟩ F' H' d v → Own X.K g ⟨H1, F1, none⟩ (er F' p) H' d v := fun hd ow => by
          obtain ⟨q', ws', l, a1, a2, a3, a4, a5, a6⟩ := ow
          subst a2
          refine ⟨q', ws', l, a1, rfl, a3, ?_, a5, reps_er hp' _ _ (by rw [noObj] at hd; exact hd) a6⟩
          by_cases z : q' = p
          · rw [z]; exact er_at
          · rw [er_ne z]; exact a4
        cases rk with
        | flat => exact ⟨ro.1, rep_er hp' _ _ hd ro.2⟩
        | fz => exact rep_er hp' _ _ hd ro
        | own => exact own' hd ro
        | ownf => exact ⟨own' hd ro.1, ro.2⟩
        | mu => obtain ⟨_, _, _, _, z, _⟩ := ro; cases z
      exact q v _ H' (G1.grow sF rg.1.h sub' new') (x1.trans ⟨sF, rg.1.h, new'⟩) (resOk_call G1 x1.h ro')
    · rw [if_neg hd] at q; exact q.elim
  · rw [if_neg hc] at P0; exact P0.elim
section
variable {k n : Nat} {fa : Addr} {fd : FuncData} {ps : List Str} {h : List Dt → R Dt} {x m : Str} {pl : Sem Bool} {px : Pos}
theorem v_methR (i c nf : Nat) (tk : Takes X W) (C : ClsF X.K g c) (hm : Meth X.K (g.oC c) m fa) (Fo : FnOk X.prog X.w X.K X.mg X.base (L2.CX X.prog X.w) k fa fd ps (spV X.K g (n + 1) rk h)) (hr : Room k X.A) (hb : Binds X.K fd ps []) (ha : VA X g W B O .fz (e :: es) fs)
    (hn : ∀ (ρ : List Dt) (ds : List Dt), fs ρ = some (.ok ds) → ds.length = n) (hm0 : m ∉ g.oN c) (hnf : (g.oN c).length = nf := by rfl) (hO : O[i]? = some .me := by rfl) (hN : X.N[i]? = some x := by rfl)
    (hv : Vis X.env.scope x := by first | exact Or.inl rfl | exact Or.inr (Or.inl rfl) | exact Or.inr (Or.inr rfl)) (hd : (x == ("__debug__" : Str)) = false := by decide) (hcd : (x == ("__classdict__" : Str)) = false := by decide)
    (hst : starEach (e :: es) X.env = (false, eval e X.env) :: starEach es X.env := by rfl) (hpl : (backTo pos (starEach es X.env)).any (·.1) = false := by rfl)
    (ht : eval (.Call (.Attribute (.Name x px) m apos) (e :: es) [] pos) X.env = (do
      let ov ← eval (.Name x px) X.env
      standAt apos.atName
      let (f, first) ← holding [ov] (getMethod ov m pl)
      callWith pos f first (backTo pos (starEach (e :: es) X.env)) (backToKw pos (keywordEach [] X.env))) := by rfl) :
    VE X g W B O (rkK rk) (.Call (.Attribute (.Name x px) m apos) (e :: es) [] pos) (dMethR i c nf h fs) :=
  pe_imp (pe_methW (pe_var hN hv hd hcd) C.cl hm Fo hr hb (fun σ => passAt tk σ) ha hst hpl ht) fun σ H Q P => methR_core hO hnf hm0 hn σ H Q P
theorem v_methR0 (i c nf : Nat) (tk : Takes X W) (C : ClsF X.K g c) (hm : Meth X.K (g.oC c) m fa) (Fo : FnOk X.prog X.w X.K X.mg X.base (L2.CX X.prog X.w) k fa fd ps (spV X.K g 1 rk h)) (hr : Room k X.A) (hb : Binds X.K fd ps [])
    (hm0 : m ∉ g.oN c) (hnf : (g.oN c).length = nf := by rfl) (hO : O[i]? = some .me := by rfl) (hN : X.N[i]? = some x := by rfl)
    (hv : Vis X.env.scope x := by first | exact Or.inl rfl | exact Or.inr (Or.inl rfl) | exact Or.inr (Or.inr rfl)) (hd : (x == ("__debug__" : Str)) = false := by decide) (hcd : (x == ("__classdict__" : Str)) = false := by decide)
    (ht : eval (.Call (.Attribute (.Name x px) m apos) [] [] pos) X.env = (do
      let ov ← eval (.Name x px) X.env
      standAt apos.atName
      let (f, first) ← holding [ov] (getMethod ov m pl)
      callWith pos f first (backTo pos (starEach [] X.env)) (backToKw pos (keywordEach [] X.env))) := by rfl) :
    VE X g W B O (rkK rk) (.Call (.Attribute (.Name x px) m apos) [] [] pos) (dMethR i c nf h aNil) :=
  pe_imp (pe_methW0 (pe_var hN hv hd hcd) C.cl hm Fo hr hb (fun σ => passAt tk σ) ht) fun σ H Q P => by
    obtain ⟨v, h1, a, dx, fl, e1, e2, e3, F, ρ, G, q⟩ := methR_core (n := 0) hO hnf hm0 aNil_len' σ H Q P
    exact ⟨v, h1, a, dx, fl, e1, e2, e3, q [] F H G (Ext.refl _ _) (reps_nil (K := X.K) (g := g) (H := F))⟩
end
/-! ### a def whose last statement writes its first argument: where it raises, the object is as it was -/
def spL (K : PySem.W.Frag) (g : Cfg) (n : Nat) (h : List Dt → R Dt) : Sp := fun vs H Q E => ∃ F p d0 ds vs', vs = .ref p :: vs' ∧ MeAt K g F H p d0 ∧ Same F H ∧ ds.length = n ∧ Reps K g F ds vs' ∧
  PostX (fun c => ∀ H', Same H H' → E (.ref (g.cA c)) none H') (h (d0 :: ds)) fun d => ∀ v F' H', RetG ⟨er H p, F, some p⟩ F' H' → RetOk K g ⟨er H p, F, some p⟩ F' H' .mu d v → Q v H'
theorem spM_spL {K : PySem.W.Frag} {g : Cfg} {n : Nat} {h : List Dt → R Dt} {vs : List V} {H : Hp} {Q : VK} {E : XK} (x : spM K g n h vs H Q E) : spL K g n h vs H Q E := by
  obtain ⟨F, p, d0, ds, vs', e, me, sub, hl, r, post⟩ := x
  exact ⟨F, p, d0, ds, vs', e, me, sub, hl, r, PostX.mono post (fun c z H' s => z H' (er_same.trans s)) fun _ _ z => z⟩
def tL (K : PySem.W.Frag) (g : Cfg) (W : WX) (B : Base) (O : List SK) (f : List Dt → R Dt) : TS := fun D σ H => ∃ F ρ, Good K g B O F ρ σ H ∧
  PostX (ErW g W B) (f ρ) fun d => ∀ p σ' F' H', B.me = some p → RetG ⟨er B.H p, B.F, some p⟩ F' H' → MeAt K g F' H' p d → D.nx σ' H'
def VSsL (X : Cx) (g : Cfg) (W : WX) (B : Base) (O : List SK) (st : List Stmt) (f : List Dt → R Dt) : Prop := PSs X st (tL X.K g W B O f)
def VSL (X : Cx) (g : Cfg) (W : WX) (B : Base) (O : List SK) (st : Stmt) (f : List Dt → R Dt) : Prop := PS X st (tL X.K g W B O f)
def dSeqL (s : List Dt → R Fl) (f : List Dt → R Dt) : List Dt → R Dt := fun ρ => rbind (s ρ) fun fl => match fl with
  | .nx ρ' => f ρ'
  | .rt _ => none
theorem vsl_cons (h1 : VS X g W B .flat O O1 st s) (h2 : VSsL X g W B O1 rest f) : VSsL X g W B O (st :: rest) (dSeqL s f) := pss_imp (pss_cons h1 h2) fun D σ H ⟨F, ρ, G, P⟩ =>
  ⟨F, ρ, G, PostX.mono (PostX.bind P) (fun _ z => z) fun fl e q => by
    cases fl with
    | nx ρ' => exact fun F' σ' H' G' s' => ⟨F', ρ', G', q⟩
    | rt d => exact q.elim⟩
theorem vsl_one (h : VSL X g W B O st f) : VSsL X g W B O [st] f := pss_one h
theorem vsl_p (h : VSsL X g W B O1 rest f) (w : wkAll O O1 = true := by rfl) : VSsL X g W B O rest f := pss_imp h fun D σ H ⟨F, ρ, G, P⟩ => by
  obtain ⟨F1, G1, sm⟩ := G.weak w
  exact ⟨F1, ρ, G1, P⟩
/-- the object at p has been written, all else stands -/
theorem retL {K : PySem.W.Frag} {F F' H H' : Hp} {ρ : List Dt} {σ : St} {p : Addr} (G : Good K g B O F ρ σ H) (hF : F p = none) (rg : RetG ⟨er H p, F, some p⟩ F' H') : RetG ⟨er B.H p, B.F, some p⟩ F' H' := by
  refine ⟨⟨G.bF.trans rg.1.f, fun a o e => ?_, fun a o e => ?_⟩, rg.2⟩
  · have ha : a ≠ p := fun z => by
      have e : er B.H p a = some o := e
      rw [z, er_at] at e; cases e
    have e : er B.H p a = some o := e
    rw [er_ne ha] at e
    exact rg.1.h _ _ (by show er H p a = _; rw [er_ne ha]; exact G.b0 _ _ e)
  · show B.F a = some o ∨ er B.H p a = none
    rcases rg.1.n a o e with z | z
    · rcases G.new a o z with u | u
      · exact .inl u
      · exact .inr (er_same.free u)
    · refine .inr ?_
      by_cases ha : a = p
      · rw [ha]; exact er_at
      · have z : er H p a = none := z
        rw [er_ne ha] at z ⊢
        exact G.b0.free z
def dAttrL (i c k : Nat) (f : List Dt → R Dt) : List Dt → R Dt := fun ρ => rbind (f ρ) fun d => match ρ[i]? with
  | some d0 => setA c k d d0
  | none => none
theorem vsl_attr {x fn : Str} {px tpos : Pos} (i c k : Nat) (C : ClsF X.K g c) (h : VE X g W B O .fz e f) (hk : (g.oN c)[k]? = some fn := by rfl) (hO : O[i]? = some .me := by rfl) (hN : X.N[i]? = some x := by rfl)
    (hv : Vis X.env.scope x := by first | exact Or.inl rfl | exact Or.inr (Or.inl rfl) | exact Or.inr (Or.inr rfl)) (hd : (x == ("__debug__" : Str)) = false := by decide) (hcd : (x == ("__classdict__" : Str)) = false := by decide)
    (hs : swapsWith e (some (.Attribute (.Name x px) fn tpos)) pos.line X.env = pure false := by rfl) : VSL X g W B O (.Assign [.Attribute (.Name x px) fn tpos] e pos) (dAttrL i c k f) := ps_imp (ps_fld (pe_var hN hv hd hcd) h hs) fun D σ H ⟨F, ρ, G, P⟩ =>
  tE_then G P fun d v F1 H1 e1 G1 x1 r1 P1 => by
    obtain ⟨d0, o, h1, h2, p, h3, h4, m⟩ := slot_there G1 hO
    have P1 : PostX (ErW g W B) (match ρ[i]? with | some d0 => (setA c k d d0 : R Dt) | none => none) _ := P1
    rw [h1] at P1
    obtain ⟨l, rfl, hl, P2⟩ := setA_inv P1
    obtain ⟨c', st, dx, vs, m1, m2, m3, m4, m5⟩ := m
    cases m1
    subst h4
    have hlen := reps_len m4
    have hkl : k < (g.oN c).length := (List.getElem?_eq_some_iff.mp hk).1
    refine ⟨_, h2, p, _, dx, _, rfl, m2, C.cl, C.na fn (List.mem_of_getElem? hk), by rw [List.length_zip]; have := C.few; omega, ?_⟩
    rw [zip_put C.nd hk (by omega)]
    refine P2 p σ F1 _ h3 (retL G1 m5 ⟨⟨fun _ _ z => z, fun a o e => ?_, fun _ _ z => .inl z⟩, fun a o e => ?_⟩) ⟨c, _, dx, (if k < vs.length then vs.set k v else vs ++ [v]), rfl, upd_same, ?_, ?_, m5⟩
    · have e : er H1 p a = some o := e
      by_cases ha : a = p
      · subst ha; rw [er_at] at e; cases e
      · rw [er_ne ha] at e; rw [upd_ne ha]; exact e
    · rw [upd_ne (ne_of_none e m5)]; exact G1.sub _ _ e
    · split
      · rw [List.length_set]; exact m3
      · rw [List.length_append, List.length_singleton]; omega
    · by_cases q : k < l.length
      · rw [if_pos q, if_pos (by omega)]; exact reps_set k m4 r1
      · rw [if_neg q, if_neg (by omega)]; exact reps_append m4 (reps_cons r1 reps_nil)
/-- self.m(..), the last one -/
def dCallL (i c : Nat) (h : List Dt → R Dt) (fs : List Dt → R (List Dt)) : List Dt → R Dt := fun ρ => match ρ[i]? with
  | some (.obj c' l) => if c' = c then rbind (fs ρ) fun ds => rbind (h (.obj c l :: ds)) fun d => (match d with
    | .tup [_, d1] => rok d1
    | _ => none) else none
  | _ => none
section
variable {k n : Nat} {fa : Addr} {fd : FuncData} {ps : List Str} {h : List Dt → R Dt} {x m : Str} {pl : Sem Bool} {px cpos : Pos}
theorem vsl_call (i c : Nat) (tk : Takes X W) (C : ClsF X.K g c) (hm : Meth X.K (g.oC c) m fa) (Fo : FnOk X.prog X.w X.K X.mg X.base (L2.CX X.prog X.w) k fa fd ps (spL X.K g n h)) (hr : Room k X.A) (hb : Binds X.K fd ps []) (ha : VA X g W B O .fz (e :: es) fs)
    (hn : ∀ (ρ : List Dt) (ds : List Dt), fs ρ = some (.ok ds) → ds.length = n) (hm0 : m ∉ g.oN c) (hO : O[i]? = some .me := by rfl) (hN : X.N[i]? = some x := by rfl)
    (hv : Vis X.env.scope x := by first | exact Or.inl rfl | exact Or.inr (Or.inl rfl) | exact Or.inr (Or.inr rfl)) (hd : (x == ("__debug__" : Str)) = false := by decide) (hcd : (x == ("__classdict__" : Str)) = false := by decide)
    (hst : starEach (e :: es) X.env = (false, eval e X.env) :: starEach es X.env := by rfl) (hpl : (backTo cpos (starEach es X.env)).any (·.1) = false := by rfl)
    (ht : eval (.Call (.Attribute (.Name x px) m apos) (e :: es) [] cpos) X.env = (do
      let ov ← eval (.Name x px) X.env
      standAt apos.atName
      let (f, first) ← holding [ov] (getMethod ov m pl)
      callWith cpos f first (backTo cpos (starEach (e :: es) X.env)) (backToKw cpos (keywordEach [] X.env))) := by rfl)
    (hsw : swapsWith (.Call (.Attribute (.Name x px) m apos) (e :: es) [] cpos) none pos.line X.env = pure false := by rfl) :
    VSL X g W B O (.Expr (.Call (.Attribute (.Name x px) m apos) (e :: es) [] cpos) pos) (dCallL i c h fs) :=
  ps_imp (ps_expr (pe_methW (pe_var hN hv hd hcd) C.cl hm Fo hr hb (fun σ => passAt tk σ) ha hst hpl ht) hsw) fun D σ H ⟨F, ρ, G, P⟩ => by
  obtain ⟨d0, o, h1, h2, p, h3, h4, me⟩ := slot_there G hO
  subst h4
  obtain ⟨c', st, dx, vs, m1, m2, m3, m4, m5⟩ := id me
  subst m1
  have P0 : PostX (ErW g W B) (match ρ[i]? with
    | some (.obj c' l) => if c' = c then rbind (fs ρ) fun ds => rbind (h (.obj c l :: ds)) fun d => (match d with
      | .tup [_, d1] => (rok d1 : R Dt)
      | _ => none) else none
    | _ => none) _ := P
  rw [h1] at P0
  have P0 : PostX (ErW g W B) (if c' = c then rbind (fs ρ) fun ds => rbind (h (.obj c st :: ds)) fun d => (match d with
      | .tup [_, d1] => (rok d1 : R Dt)
      | _ => none) else none) _ := P0
  by_cases hc : c' = c
  · subst hc
    rw [if_pos rfl] at P0
    refine ⟨_, h2, p, dx, _, rfl, m2, zip_none hm0, F, ρ, G, PostX.mono (PostX.bind P0) (fun _ z => erW z) fun ds e P1 ws F1 H1 G1 x1 r1 => ?_⟩
    have hF1 : F1 p = none := by
      cases z : F1 p with
      | none => rfl
      | some o =>
        rcases x1.n p o z with u | u
        · rw [m5] at u; cases u
        · rw [m2] at u; cases u
    have me1 : MeAt X.K g F1 H1 p (.obj c' st) := me.mono x1.f x1.h hF1
    refine ⟨F1, p, .obj c' st, ds, ws, rfl, me1, G1.sub, hn ρ ds e, r1, PostX.mono (PostX.bind P1) (fun c z H' s => z σ H' (G1.b0.trans s)) fun d _ q v F' H' rg ro => ?_⟩
    obtain ⟨r, d1, p', rfl, e3, r2, me2⟩ := ro
    cases e3
    exact q p σ F' H' h3 (retL G1 hF1 rg) me2
  · rw [if_neg hc] at P0; exact P0.elim
/-- within try: where it raises, all slots stand -/
theorem vse_callL (i c : Nat) (tk : Takes X W) (C : ClsF X.K g c) (hm : Meth X.K (g.oC c) m fa) (Fo : FnOk X.prog X.w X.K X.mg X.base (L2.CX X.prog X.w) k fa fd ps (spL X.K g n h)) (hr : Room k X.A) (hb : Binds X.K fd ps []) (ha : VA X g W B O .fz (e :: es) fs)
    (hn : ∀ (ρ : List Dt) (ds : List Dt), fs ρ = some (.ok ds) → ds.length = n) (hm0 : m ∉ g.oN c) (hB : ∀ p, B.me = some p → B.H p = none) (hO : O[i]? = some .me := by rfl) (hu : noMe (O.set i .un) = true := by rfl) (hN : X.N[i]? = some x := by rfl)
    (hv : Vis X.env.scope x := by first | exact Or.inl rfl | exact Or.inr (Or.inl rfl) | exact Or.inr (Or.inr rfl)) (hd : (x == ("__debug__" : Str)) = false := by decide) (hcd : (x == ("__classdict__" : Str)) = false := by decide)
    (hst : starEach (e :: es) X.env = (false, eval e X.env) :: starEach es X.env := by rfl) (hpl : (backTo cpos (starEach es X.env)).any (·.1) = false := by rfl)
    (ht : eval (.Call (.Attribute (.Name x px) m apos) (e :: es) [] cpos) X.env = (do
      let ov ← eval (.Name x px) X.env
      standAt apos.atName
      let (f, first) ← holding [ov] (getMethod ov m pl)
      callWith cpos f first (backTo cpos (starEach (e :: es) X.env)) (backToKw cpos (keywordEach [] X.env))) := by rfl)
    (hsw : swapsWith (.Call (.Attribute (.Name x px) m apos) (e :: es) [] cpos) none pos.line X.env = pure false := by rfl) :
    VSe X g W B rk O O (.Expr (.Call (.Attribute (.Name x px) m apos) (e :: es) [] cpos) pos) (dCallM i c h fs) :=
  ps_imp (ps_expr (pe_methW (pe_var hN hv hd hcd) C.cl hm Fo hr hb (fun σ => passAt tk σ) ha hst hpl ht) hsw) fun D σ H ⟨F, ρ, G, P⟩ => by
  obtain ⟨d0, o, h1, h2, p, h3, h4, me⟩ := slot_there G hO
  subst h4
  obtain ⟨c', st, dx, vs, m1, m2, m3, m4, m5⟩ := id me
  subst m1
  have P0 : PostX (ErE X.K g W B O F ρ σ) (match ρ[i]? with
    | some (.obj c' l) => if c' = c then rbind (fs ρ) fun ds => rbind (h (.obj c l :: ds)) fun d => (match d with
      | .tup [_, d1] => (rok (Fl.nx (ρ.set i d1)) : R Fl)
      | _ => none) else none
    | _ => none) _ := P
  rw [h1] at P0
  have P0 : PostX (ErE X.K g W B O F ρ σ) (if c' = c then rbind (fs ρ) fun ds => rbind (h (.obj c st :: ds)) fun d => (match d with
      | .tup [_, d1] => (rok (Fl.nx (ρ.set i d1)) : R Fl)
      | _ => none) else none) _ := P0
  by_cases hc : c' = c
  · subst hc
    rw [if_pos rfl] at P0
    have P := PostX.bind P0
    refine ⟨_, h2, p, dx, _, rfl, m2, zip_none hm0, F, ρ, G, PostX.mono P (fun _ z => z) fun ds e P1 ws F1 H1 G1 x1 r1 => ?_⟩
    have hF1 : F1 p = none := by
      cases z : F1 p with
      | none => rfl
      | some o =>
        rcases x1.n p o z with u | u
        · rw [m5] at u; cases u
        · rw [m2] at u; cases u
    have me1 : MeAt X.K g F1 H1 p (.obj c' st) := me.mono x1.f x1.h hF1
    have bm := hB p h3
    refine ⟨F1, p, .obj c' st, ds, ws, rfl, me1, G1.sub, hn ρ ds e, r1, PostX.mono (PostX.bind P1) (fun c z H' s => z F1 H' (G1.grow (fun _ _ z => z) s (G1.sub.trans s) fun _ _ z => .inl z) x1.f) fun d _ q v F' H' rg ro => ?_⟩
    obtain ⟨r, d1, p', rfl, e3, r2, me2⟩ := ro
    cases e3
    exact q F' σ H' (G1.writeM h3 bm hO hu hF1 ⟨_, _, _, x1.h _ _ m2⟩ rg.1.f rg.1.h rg.2 rg.1.n me2) (x1.f.trans rg.1.f)
  · rw [if_neg hc] at P0; exact P0.elim
end
/-! ### x.pop(e) -/
def kPop : List Dt → List Dt → R (List Dt) := fun ds l => match ds with
  | [.int i] => if 0 ≤ i ∧ i < l.length ∧ i < 2 ^ 63 then rok (l.take i.toNat ++ l.drop (i.toNat + 1)) else none
  | _ => none
def dPop (i : Nat) (f : List Dt → R Dt) : List Dt → R Fl := fun ρ => rbind (aCons f aNil ρ) fun ds => onLst i (kPop ds) ρ
theorem kPop_inv {ds l : List Dt} {er : Nat → Prop} {ok : List Dt → Prop} (P : PostX er (kPop ds l) ok) : ∃ i, ds = [.int i] ∧ (0 ≤ i ∧ i < l.length ∧ i < 2 ^ 63) ∧ ok (l.take i.toNat ++ l.drop (i.toNat + 1)) := by
  unfold kPop at P
  split at P
  · rename_i i
    by_cases c : 0 ≤ i ∧ i < l.length ∧ i < 2 ^ 63
    · rw [if_pos c] at P; exact ⟨i, rfl, c, P⟩
    · rw [if_neg c] at P; exact P.elim
  · exact P.elim
theorem vs_pop (i : Nat) {x : Str} {px apos cpos : Pos} (ha : VE X g W B O .fz e f) (hO : O[i]? = some .own := by rfl) (hN : X.N[i]? = some x := by rfl) (hv : Vis X.env.scope x := by first | exact Or.inl rfl | exact Or.inr (Or.inl rfl) | exact Or.inr (Or.inr rfl)) (hd : (x == ("__debug__" : Str)) = false := by decide) (hcd : (x == ("__classdict__" : Str)) = false := by decide)
    (hbase : attributeBase (.Name x px) "pop" X.env (eval (.Name x px) X.env) = eval (.Name x px) X.env := by rfl)
    (hfew : ((backTo cpos (starEach [e] X.env)).all (fun x => !x.1) && (backToKw cpos (keywordEach [] X.env)).all (fun x => x.1.isSome)
      && decide ([e].length + ([] : List Keyword).length + (if ([] : List Keyword).isEmpty then 0 else 1) < 30)) = true := by rfl)
    (hline : (apos.endLine == cpos.line) = true := by rfl) (hs : starEach [e] X.env = (false, eval e X.env) :: starEach [] X.env := by rfl) (hplain : (backTo cpos (starEach [] X.env)).any (·.1) = false := by rfl)
    (hsw : swapsWith (.Call (.Attribute (.Name x px) "pop" apos) [e] [] cpos) none pos.line X.env = pure false := by rfl) :
    VS X g W B rk O O (.Expr (.Call (.Attribute (.Name x px) "pop" apos) [e] [] cpos) pos) (dPop i f) :=
  list_meth (k := kPop) PySem.F.slot_list_pop PySem.F.type_list_pop mt_popAt (va_consF ha va_nil hs) (fun p l vs ds ws F H Q er okk h1 h2 h3 h4 P k => by
    obtain ⟨j, rfl, ⟨c1, c2, c3⟩, P⟩ := kPop_inv P
    rw [Reps] at h3
    obtain ⟨v, r, rfl, h5, h6⟩ := h3
    rw [Reps] at h6
    subst h6
    rw [Rep] at h5
    subst h5
    have hl := reps_len h2
    have hlt : j.toNat < vs.length := by omega
    refine ⟨p, vs, j, j.toNat, vs[j.toNat], rfl, rfl, h1, by omega, c3, ?_, List.getElem?_eq_getElem hlt, ?_⟩
    · have hj : (if j < 0 then j + (vs.length : Int) else j) = j := if_neg (by omega)
      unfold seqIndex?
      simp only [hj]
      exact if_pos (by rw [Bool.and_eq_true]; exact ⟨decide_eq_true c1, decide_eq_true (by omega)⟩)
    · rw [List.eraseIdx_eq_take_drop_succ]
      exact k _ _ _ P (reps_append (reps_take _ h2) (reps_drop _ h2))) hO hN hv hd hcd hbase hfew hline hs hplain hsw
end
/-! ### a def of that kind -/
def dFnL (m : Nat) (f : List Dt → R Dt) : List Dt → R Dt := fun ds => rbind (f (ds ++ List.replicate m .non)) fun d => rok (.tup [.non, d])
theorem good_startL {K : PySem.W.Frag} {g : Cfg} {F H : Hp} {N : List Str} {ds : List Dt} {d0 : Dt} {p : Addr} {vs : List V} {n m : Nat} (sub : Same F H) (hn : ds.length = n) (hN : N.length = n + 1 + m) (r : Reps K g F ds vs) (me : MeAt K g F H p d0) :
    Good K g ⟨H, F, some p⟩ (startM n m) F ((d0 :: ds) ++ List.replicate m .non) (L2.start N (.ref p :: vs)) H := by
  have G := good_startM (K := K) (g := g) (N := N) (m := m) sub hn hN r me
  refine ⟨G.lenO, G.lenR, fun _ _ z => z, G.bF, G.sub, fun _ _ z => .inl z, fun i k d o h1 h2 h3 => ?_, G.apart⟩
  have q := G.slot i k d o h1 h2 h3
  have nb : k ≠ .own ∧ k ≠ .bo := by
    have : k ∈ startM n m := List.mem_of_getElem? h1
    unfold startM at this
    simp only [List.mem_cons, List.mem_append, List.mem_replicate] at this
    rcases this with rfl | ⟨_, rfl⟩ | ⟨_, rfl⟩ <;> exact ⟨(fun e => by cases e), (fun e => by cases e)⟩
  cases k with
  | un => trivial
  | fz => exact q
  | own => exact absurd rfl nb.1
  | me => exact q
  | bo => exact absurd rfl nb.2
section
variable {P : Program} {w : World} {K : PySem.W.Frag} {mg : Str → Option Value} {base : Heap} {g : Cfg}
theorem fn_valL {x qual : Str} {st : Stmt} {fa : Addr} {fd : FuncData} {N ps : List Str} {k n m : Nat} {f : List Dt → R Dt} (Fu : Fun K x qual st fa fd) (S : FnScope N ps (defScope st)) (hn : ps.length = n + 1) (hN : N.length = n + 1 + m)
    (hb : ∀ (cdv : Value) (A : Around) (outer : List Env) (s : Shared) (H F : Hp) (p : Addr) (E : XK), Room k (A.deeper (envOfC qual (defScope st) s.heap.objs.size fa cdv)) → Takes (cxOf (L2.CX P w) P w K mg base N qual (defScope st) fa cdv A outer s H E) (fun cls d _ H => E cls d H) →
      VSsL (cxOf (L2.CX P w) P w K mg base N qual (defScope st) fa cdv A outer s H E) g (fun cls d _ H => E cls d H) ⟨H, F, some p⟩ (startM n m) (defBody st) f) : FnOk P w K mg base (L2.CX P w) (k + 1) fa fd ps (spL K g n (dFnL m f)) := by
  refine Fu.okX S (fun vs H Q E h => ?_) fun cdv A outer s H vs Q E hr h => ?_
  · obtain ⟨F, p, d0, ds, vs', rfl, _, _, hl, r, _⟩ := h
    rw [List.length_cons, ← reps_len r, hl, hn]
  · obtain ⟨F, p, d0, ds, vs', rfl, me, sub, hl, r, post⟩ := h
    refine ⟨_, hb cdv A outer s H F p E hr (takes_of rfl rfl rfl rfl), ?_⟩
    refine ⟨F, _, good_startL sub hl hN r me, PostX.mono (PostX.bind post) (fun c z σ' H' s => z H' s) fun d _ q p' σ' F' H' e rg m' => ?_⟩
    cases e
    exact q .non F' H' rg ⟨.non, d, p, rfl, rfl, rep_non (K := K) (g := g) (F := F'), m'⟩
theorem fn_M {fa : Addr} {fd : FuncData} {ps : List Str} {k n : Nat} {h : List Dt → R Dt} (Fo : FnOk P w K mg base (L2.CX P w) k fa fd ps (spL K g n h)) : FnOk P w K mg base (L2.CX P w) k fa fd ps (spM K g n h) := Fo.imp fun vs H Q E x => spM_spL x
end
end VL

set_option Elab.async false
set_option linter.all false
set_option maxRecDepth 100000
set_option maxHeartbeats 4000000
namespace VL
open PySem PySem.Spec PyProof.Rows L2
/-! ### expressions that write the frame's object -/
/-- the heap and the frozen part have grown; only the frame's object may have been written -/
structure ExtM (B : Base) (F H F' H' : Hp) : Prop where
  f : Same F F'
  h : ∀ (a : Addr) (o : HO), H a = some o → B.me ≠ some a → H' a = some o
  t : ∀ a : Addr, H' a = none → H a = none
  n : ∀ (a : Addr) (o : HO), F' a = some o → F a = some o ∨ H a = none
theorem ExtM.of {B : Base} {F H F' H' : Hp} (x : Ext F H F' H') : ExtM B F H F' H' := ⟨x.f, fun a o e _ => x.h _ _ e, fun a e => x.h.free e, x.n⟩
theorem ExtM.trans {B : Base} {F H F1 H1 F2 H2 : Hp} (a : ExtM B F H F1 H1) (b : ExtM B F1 H1 F2 H2) : ExtM B F H F2 H2 := ⟨a.f.trans b.f, fun c o e z => b.h _ _ (a.h _ _ e z) z, fun c e => a.t c (b.t c e), fun c o e => by
  rcases b.n c o e with q | q
  · exact a.n c o q
  · exact .inr (a.t c q)⟩
def tX (K : PySem.W.Frag) (g : Cfg) (W : WX) (B : Base) (O : List SK) (kd : Kd) (f : List Dt → R (Dt × List Dt)) : TE := fun σ H Q => ∃ F ρ, Good K g B O F ρ σ H ∧
  PostX (ErW g W B) (f ρ) fun z => ∀ v F' H', Good K g B O F' z.2 σ H' → ExtM B F H F' H' → ResOk K g B O H F' σ H' kd z.1 v → Q v H'
def VX (X : Cx) (g : Cfg) (W : WX) (B : Base) (O : List SK) (kd : Kd) (e : Expr) (f : List Dt → R (Dt × List Dt)) : Prop := PE X e (tX X.K g W B O kd f)
def tTX (K : PySem.W.Frag) (g : Cfg) (W : WX) (B : Base) (O : List SK) (f : List Dt → R (Bool × List Dt)) : TT := fun σ H Q => ∃ F ρ, Good K g B O F ρ σ H ∧
  PostX (ErW g W B) (f ρ) fun z => ∀ F' H', Good K g B O F' z.2 σ H' → ExtM B F H F' H' → Q z.1 H'
def VTX (X : Cx) (g : Cfg) (W : WX) (B : Base) (O : List SK) (e : Expr) (f : List Dt → R (Bool × List Dt)) : Prop := PT X e (tTX X.K g W B O f)
def tIX (K : PySem.W.Frag) (g : Cfg) (W : WX) (B : Base) (O : List SK) (it : List Dt → R (List Dt × List Dt)) : TI := fun σ H R => ∃ F ρ, Good K g B O F ρ σ H ∧
  PostX (ErW g W B) (it ρ) fun z => ∀ J F' H', Good K g B O F' z.2 σ H' → ExtM B F H F' H' → WalkOk K g B J z.1 F' → R J H'
def VIX (X : Cx) (g : Cfg) (W : WX) (B : Base) (O : List SK) (tg e : Expr) (it : List Dt → R (List Dt × List Dt)) : Prop := PI X tg e (tIX X.K g W B O it)
section
variable {X : Cx} {g : Cfg} {W : WX} {B : Base} {O O1 O2 O' : List SK} {pos p0 apos : Pos} {kd kd1 : Kd} {rk : RK} {a b c e : Expr} {es : List Expr} {f f1 f2 f3 : List Dt → R Dt} {fx fy : List Dt → R (Dt × List Dt)} {fs : List Dt → R (List Dt)} {p p1 p2 : List Dt → R Bool} {s s1 s2 : List Dt → R Fl} {st : Stmt} {rest : List Stmt} {K : PySem.W.Frag} {F F1 F2 H H1 H2 : Hp} {ρ ρ1 ρ2 : List Dt} {σ : St} {Q : VK}
theorem resM {d : Dt} {v : V} {F' H' : Hp} (t : ∀ a : Addr, H1 a = none → H a = none) (r : ResOk K g B O H1 F' σ H' kd d v) : ResOk K g B O H F' σ H' kd d v := by
  cases kd with
  | fz => exact r
  | ct => exact r
  | own => exact ⟨r.1, r.2.1, fun p hp => t _ (r.2.2 p hp)⟩
/-- what comes last is pure -/
theorem fin {r : R Dt} (x : ExtM B F H F2 H2) (P : PostX (ErW g W B) (rbind r fun d => rok (d, ρ2)) fun z => ∀ v F' H', Good K g B O F' z.2 σ H' → ExtM B F H F' H' → ResOk K g B O H F' σ H' kd z.1 v → Q v H') : Post K g W B O kd r F2 ρ2 σ H2 Q :=
  PostX.mono (PostX.bind P) (fun _ z => erW z) fun d _ q v F' H' G' x2 ro => q v F' H' G' (x.trans (.of x2)) (resM x.t ro)
theorem tX_then {β : Type} {k : Dt × List Dt → R β} {ok : β → Prop} (G : Good K g B O F ρ σ H) (h : PostX (ErW g W B) (rbind (fx ρ) k) ok)
    (c : ∀ z v F' H', Good K g B O F' z.2 σ H' → ExtM B F H F' H' → ResOk K g B O H F' σ H' kd1 z.1 v → PostX (ErW g W B) (k z) ok → Q v H') : tX K g W B O kd1 fx σ H Q :=
  ⟨F, ρ, G, PostX.mono (PostX.bind h) (fun _ z => z) fun z _ q v F' H' G' x r => c z v F' H' G' x r q⟩
/-- list at H stays: it is no instance -/
theorem repC_M {d : Dt} {v : V} (G : Good K g B O F ρ σ H) {i : Nat} (hO : O[i]? = some .me) (x : ExtM B F H F1 H1) (r : RepC K g F H d v) : RepC K g F1 H1 d v := by
  cases d with
  | lst l =>
    obtain ⟨a, vs, e, h1, h2⟩ := r
    refine ⟨a, vs, e, x.h _ _ h1 fun z => ?_, reps_mono x.f _ _ h2⟩
    obtain ⟨d0, o, _, _, p, h3, h4, me⟩ := slot_there G hO
    rw [h3] at z
    cases z
    exact me.ne h1 rfl
  | non => exact rep_mono x.f _ _ r
  | bl _ => exact rep_mono x.f _ _ r
  | int _ => exact rep_mono x.f _ _ r
  | str _ => exact rep_mono x.f _ _ r
  | tup _ => exact rep_mono x.f _ _ r
  | obj _ _ => exact rep_mono x.f _ _ r
  | scr _ => exact rep_mono x.f _ _ r
  | exc _ => exact rep_mono x.f _ _ r
  | dct _ _ => exact rep_mono x.f _ _ r
/-! from kind to kind -/
theorem vx_ct (h : VX X g W B O .fz e fx) : VX X g W B O .ct e fx := pe_imp h fun σ H Q ⟨F, ρ, G, P⟩ =>
  ⟨F, ρ, G, PostX.mono P (fun _ z => z) fun z _ q v F' H' G' x r => q v F' H' G' x (rep_repC G'.sub r)⟩
theorem vx_fz (h : VX X g W B O .own e fx) : VX X g W B O .fz e fx := pe_imp h fun σ H Q ⟨F, ρ, G, P⟩ =>
  ⟨F, ρ, G, PostX.mono P (fun _ z => z) fun d _ q v F' H' G' x r => by
    obtain ⟨⟨p, vs, l, e1, e2, e3, e4, e5, e6⟩, ap, fr⟩ := r
    subst e1
    refine q _ _ H' (G'.freeze e3 e4 e5 ap) ⟨x.f.trans (same_upd e4), x.h, x.t, fun a o e => ?_⟩ ?_
    · by_cases ha : a = p
      · subst ha; exact .inr (fr _ rfl)
      · rw [upd_ne ha] at e; exact x.n a o e
    show Rep _ _ _ _ _
    rw [e2, Rep]
    exact ⟨p, vs, rfl, upd_same, reps_mono (same_upd e4) _ _ e6⟩⟩
/-! calls -/
def mu2 (ρ : List Dt) (i : Nat) : Dt → R (Dt × List Dt)
  | .tup [r, d1] => rok (r, ρ.set i d1)
  | _ => none
def dXM (i c : Nat) (h : List Dt → R Dt) (fs : List Dt → R (List Dt)) : List Dt → R (Dt × List Dt) := fun ρ => match ρ[i]? with
  | some (.obj c' l) => if c' = c then rbind (fs ρ) fun ds => rbind (h (.obj c l :: ds)) (mu2 ρ i) else none
  | _ => none
theorem extM_call {F' H' : Hp} {p : Addr} (hme : B.me = some p) (hp : H1 p ≠ none) (rg : RetG ⟨er H1 p, F1, some p⟩ F' H') (m : H' p ≠ none) (hF' : F' p = none) : ExtM B F1 H1 F' H' := by
  refine ⟨rg.1.f, fun a o e ne => rg.1.h _ _ ?_, fun a e => ?_, fun a o e => ?_⟩
  · show er H1 p a = some o
    rw [er_ne (fun z => ne (by rw [hme, z]))]; exact e
  · by_cases ha : a = p
    · rw [ha] at e; exact absurd e m
    · have : er H1 p a = none := rg.1.h.free e
      rw [er_ne ha] at this; exact this
  · rcases rg.1.n a o e with z | z
    · exact .inl z
    · by_cases ha : a = p
      · rw [ha, hF'] at e; cases e
      · have z : er H1 p a = none := z
        rw [er_ne ha] at z; exact .inr z
section
variable {k n : Nat} {fa : Addr} {fd : FuncData} {ps : List Str} {h : List Dt → R Dt} {x y m : Str} {pl : Sem Bool} {px py cpos : Pos}
theorem callX_core {i : Nat} {d0 : Dt} {p : Addr} {σ : St} {H F : Hp} {ρ : List Dt} {Q : VK} {ds : List Dt} {ws : List V} (hB : ∀ p, B.me = some p → B.H p = none) (hO : O[i]? = some .me) (hu : noMe (O.set i .un) = true) (h3 : B.me = some p)
    (me : MeAt K g F H p d0) (x1 : Ext F H F1 H1) (G1 : Good K g B O F1 ρ σ H1) (hn : ds.length = n) (r1 : Reps K g F1 ds ws)
    (P1 : PostX (ErW g W B) (rbind (h (d0 :: ds)) (mu2 ρ i)) fun z => ∀ v F' H', Good K g B O F' z.2 σ H' → ExtM B F H F' H' → ResOk K g B O H F' σ H' .fz z.1 v → Q v H') : spM K g n h (.ref p :: ws) H1 Q (WE W σ) := by
  have hF1 : F1 p = none := by
    cases z : F1 p with
    | none => rfl
    | some o =>
      rcases x1.n p o z with u | u
      · rw [me.nF] at u; cases u
      · exact absurd u me.there
  have me1 : MeAt K g F1 H1 p d0 := me.mono x1.f x1.h hF1
  have bm := hB p h3
  refine ⟨F1, p, d0, ds, ws, rfl, me1, G1.sub, hn, r1, PostX.mono (PostX.bind P1) (fun c z H' s => z σ H' fun a o e => s _ _ (by rw [er_ne (ne_of_none e bm)]; exact G1.b0 _ _ e)) fun d _ q v F' H' rg ro => ?_⟩
  obtain ⟨r, d1, p', rfl, e3, r2, me2⟩ := ro
  cases e3
  obtain ⟨c', st, dx, vs, m1, m2, m3, m4, m5⟩ := me1
  exact q v F' H' (G1.writeM h3 bm hO hu hF1 ⟨_, _, _, m2⟩ rg.1.f rg.1.h rg.2 rg.1.n me2) ((ExtM.of x1).trans (extM_call h3 (by rw [m2]; exact fun z => by cases z) rg me2.there me2.nF)) r2
/-- self.m(..) -/
theorem vx_meth (i c : Nat) (tk : Takes X W) (C : ClsF X.K g c) (hm : Meth X.K (g.oC c) m fa) (Fo : FnOk X.prog X.w X.K X.mg X.base (L2.CX X.prog X.w) k fa fd ps (spM X.K g n h)) (hr : Room k X.A) (hb : Binds X.K fd ps []) (ha : VA X g W B O .fz (e :: es) fs)
    (hn : ∀ (ρ : List Dt) (ds : List Dt), fs ρ = some (.ok ds) → ds.length = n) (hm0 : m ∉ g.oN c) (hB : ∀ p, B.me = some p → B.H p = none) (hO : O[i]? = some .me := by rfl) (hu : noMe (O.set i .un) = true := by rfl) (hN : X.N[i]? = some x := by rfl)
    (hv : Vis X.env.scope x := by first | exact Or.inl rfl | exact Or.inr (Or.inl rfl) | exact Or.inr (Or.inr rfl)) (hd : (x == ("__debug__" : Str)) = false := by decide) (hcd : (x == ("__classdict__" : Str)) = false := by decide)
    (hst : starEach (e :: es) X.env = (false, eval e X.env) :: starEach es X.env := by rfl) (hpl : (backTo cpos (starEach es X.env)).any (·.1) = false := by rfl)
    (ht : eval (.Call (.Attribute (.Name x px) m apos) (e :: es) [] cpos) X.env = (do
      let ov ← eval (.Name x px) X.env
      standAt apos.atName
      let (f, first) ← holding [ov] (getMethod ov m pl)
      callWith cpos f first (backTo cpos (starEach (e :: es) X.env)) (backToKw cpos (keywordEach [] X.env))) := by rfl) :
    VX X g W B O .fz (.Call (.Attribute (.Name x px) m apos) (e :: es) [] cpos) (dXM i c h fs) :=
  pe_imp (pe_methW (pe_var hN hv hd hcd) C.cl hm Fo hr hb (fun σ => passAt tk σ) ha hst hpl ht) fun σ H Q ⟨F, ρ, G, P⟩ => by
  obtain ⟨d0, o, h1, h2, p, h3, h4, me⟩ := slot_there G hO
  subst h4
  obtain ⟨c', st, dx, vs, m1, m2, m3, m4, m5⟩ := id me
  subst m1
  have P0 : PostX (ErW g W B) (match ρ[i]? with
    | some (.obj c' l) => if c' = c then rbind (fs ρ) fun ds => rbind (h (.obj c l :: ds)) (mu2 ρ i) else none
    | _ => none) _ := P
  rw [h1] at P0
  have P0 : PostX (ErW g W B) (if c' = c then rbind (fs ρ) fun ds => rbind (h (.obj c st :: ds)) (mu2 ρ i) else none) _ := P0
  by_cases hc : c' = c
  · subst hc
    rw [if_pos rfl] at P0
    refine ⟨_, h2, p, dx, _, rfl, m2, zip_none hm0, F, ρ, G, PostX.mono (PostX.bind P0) (fun _ z => erW z) fun ds e P1 ws F1 H1 G1 x1 r1 => ?_⟩
    exact callX_core hB hO hu h3 me x1 G1 (hn ρ ds e) r1 P1
  · rw [if_neg hc] at P0; exact P0.elim
/-- f(self, ..) -/
def dXF (i : Nat) (h : List Dt → R Dt) (fs : List Dt → R (List Dt)) : List Dt → R (Dt × List Dt) := fun ρ => match ρ[i]? with
  | some d0 => rbind (fs ρ) fun ds => rbind (h (d0 :: ds)) (mu2 ρ i)
  | none => none
theorem vx_fun (i : Nat) (tk : Takes X W) (Fo : FnOk X.prog X.w X.K X.mg X.base (L2.CX X.prog X.w) k fa fd ps (spM X.K g n h)) (hr : Room k X.A) (hm : X.mg x = some (.ref fa)) (hk : PySem.W.keepIn X.K (.ref fa) = true) (hb : Binds X.K fd ps []) (ha : VA X g W B O .fz es fs)
    (hn : ∀ (ρ : List Dt) (ds : List Dt), fs ρ = some (.ok ds) → ds.length = n) (hB : ∀ p, B.me = some p → B.H p = none) (hO : O[i]? = some .me := by rfl) (hu : noMe (O.set i .un) = true := by rfl) (hN : X.N[i]? = some y := by rfl)
    (hv : Vis X.env.scope y := by first | exact Or.inl rfl | exact Or.inr (Or.inl rfl) | exact Or.inr (Or.inr rfl)) (hd : (y == ("__debug__" : Str)) = false := by decide) (hcd : (y == ("__classdict__" : Str)) = false := by decide)
    (hg : Gl X x := by rfl) (hdb : (x == ("__debug__" : Str)) = false := by decide)
    (he : starEach (.Name y py :: es) X.env = (false, eval (.Name y py) X.env) :: starEach es X.env := by rfl) (hpl : (backTo pos (starEach es X.env)).any (·.1) = false := by rfl) :
    VX X g W B O .fz (.Call (.Name x p0) (.Name y py :: es) [] pos) (dXF i h fs) :=
  pe_imp (pe_callS Fo hr hg hm hk hb (fun σ => passAt tk σ) (pa_cons (pe_var hN hv hd hcd) ha he) hdb he hpl) fun σ H Q ⟨F, ρ, G, P⟩ => by
  obtain ⟨d0, o, h1, h2, p, h3, h4, me⟩ := slot_there G hO
  subst h4
  have P0 : PostX (ErW g W B) (match ρ[i]? with
    | some d0 => rbind (fs ρ) fun ds => rbind (h (d0 :: ds)) (mu2 ρ i)
    | none => none) _ := P
  rw [h1] at P0
  have P0 : PostX (ErW g W B) (rbind (fs ρ) fun ds => rbind (h (d0 :: ds)) (mu2 ρ i)) _ := P0
  refine ⟨_, h2, F, ρ, G, PostX.mono (PostX.bind P0) (fun _ z => erW z) fun ds e P1 ws F1 H1 G1 x1 r1 => ?_⟩
  exact callX_core hB hO hu h3 me x1 G1 (hn ρ ds e) r1 P1
/-- f(E) -/
def dX1 (h : List Dt → R Dt) (fx : List Dt → R (Dt × List Dt)) : List Dt → R (Dt × List Dt) := fun ρ => rbind (fx ρ) fun z => rbind (h [z.1]) fun d => rok (d, z.2)
theorem vx_call1 (tk : Takes X W) (Fo : FnOk X.prog X.w X.K X.mg X.base (L2.CX X.prog X.w) k fa fd ps (spV X.K g 1 rk h)) (hr : Room k X.A) (hm : X.mg x = some (.ref fa)) (hk : PySem.W.keepIn X.K (.ref fa) = true) (hb : Binds X.K fd ps []) (ha : VX X g W B O .fz a fx)
    (hg : Gl X x := by rfl) (hdb : (x == ("__debug__" : Str)) = false := by decide)
    (he : starEach [a] X.env = (false, eval a X.env) :: starEach [] X.env := by rfl) (hpl : (backTo pos (starEach [] X.env)).any (·.1) = false := by rfl) :
    VX X g W B O (rkK rk) (.Call (.Name x p0) [a] [] pos) (dX1 h fx) :=
  pe_imp (pe_callS Fo hr hg hm hk hb (fun σ => passAt tk σ) (pa_cons ha pa_nil he) hdb he hpl) fun σ H Q ⟨F, ρ, G, P⟩ =>
  tX_then G P fun z v F1 H1 G1 x1 r1 P1 => by
    have r1 : Rep X.K g F1 z.1 v := r1
    refine ⟨F1, [z.1], G1.sub, rfl, reps_cons r1 reps_nil, PostX.mono (PostX.bind P1) (fun c z H' s => z σ H' (G1.b0.trans s)) fun d _ q v' F' H' rg ro => ?_⟩
    exact q v' F' H' (G1.called rg) (x1.trans (.of rg.1)) (resM x1.t (resOk_call G1 (fun _ _ z => z) ro))
end
/-! operators -/
def d2XL (h : Dt → Dt → R Dt) (fx : List Dt → R (Dt × List Dt)) (f2 : List Dt → R Dt) : List Dt → R (Dt × List Dt) := fun ρ => rbind (fx ρ) fun z => rbind (f2 z.2) fun b => rbind (h z.1 b) fun d => rok (d, z.2)
def d2XR (h : Dt → Dt → R Dt) (f1 : List Dt → R Dt) (fx : List Dt → R (Dt × List Dt)) : List Dt → R (Dt × List Dt) := fun ρ => rbind (f1 ρ) fun a => rbind (fx ρ) fun z => rbind (h a z.1) fun d => rok (d, z.2)
theorem xl_op {r : R2} {h : Dt → Dt → R Dt} (hr : BinOk K g W B O kd r h) (σ : St) (H : Hp) (Q : VK) (P : tX K g W B O kd (d2XL h fx f2) σ H Q) : tOp r (tX K g W B O .ct fx) (tE K g W B O .ct f2) σ H Q := by
  obtain ⟨F, ρ, G, P⟩ := P
  refine tX_then G P fun z v1 F1 H1 G1 x1 r1 P1 => ?_
  refine tE_then G1 P1 (fun d2' v2 F2 H2 e2 G2 x2 r2 P2 => ?_) (fun _ z => erW z)
  exact hr F2 z.2 σ H2 z.1 d2' v1 v2 Q G2 (repC_mono x2.f x2.h r1) r2 (fin (x1.trans (.of x2)) P2)
theorem xr_op {r : R2} {h : Dt → Dt → R Dt} {i : Nat} (hO : O[i]? = some .me) (hr : BinOk K g W B O kd r h) (σ : St) (H : Hp) (Q : VK) (P : tX K g W B O kd (d2XR h f1 fx) σ H Q) : tOp r (tE K g W B O .ct f1) (tX K g W B O .ct fx) σ H Q := by
  obtain ⟨F, ρ, G, P⟩ := P
  refine tE_then G P (fun d1 v1 F1 H1 e1 G1 x1 r1 P1 => ?_) (fun _ z => erW z)
  refine tX_then G1 P1 fun z v2 F2 H2 G2 x2 r2 P2 => ?_
  exact hr F2 z.2 σ H2 d1 z.1 v1 v2 Q G2 (repC_M G1 hO x2 r1) r2 (fin ((ExtM.of x1).trans x2) P2)
theorem vx_binL {op : Operator} {h : Dt → Dt → R Dt} (o : BOp X g W B O op kd h) (ha : VX X g W B O .ct a fx) (hb : VE X g W B O .ct b f2) : VX X g W B O kd (.BinOp a op b pos) (d2XL h fx f2) := by
  obtain ⟨r, ho, hr⟩ := o
  exact pe_imp (pe_op ho ha hb) fun σ H Q P => xl_op hr σ H Q P
theorem vx_binR (i : Nat) {op : Operator} {h : Dt → Dt → R Dt} (o : BOp X g W B O op kd h) (ha : VE X g W B O .ct a f1) (hb : VX X g W B O .ct b fx) (hO : O[i]? = some .me := by rfl) : VX X g W B O kd (.BinOp a op b pos) (d2XR h f1 fx) := by
  obtain ⟨r, ho, hr⟩ := o
  exact pe_imp (pe_op ho ha hb) fun σ H Q P => xr_op hO hr σ H Q P
def dTX (fx : List Dt → R (Dt × List Dt)) : List Dt → R (Bool × List Dt) := fun ρ => rbind (fx ρ) fun z => rbind (dBool z.1) fun k => rok (k, z.2)
theorem vtx_cmp {op : CmpOp} {h : Dt → Dt → R Dt} (o : COp X g W B O op h) (ha : VX X g W B O .ct a fx) (hb : VE X g W B O .ct b f2) (hm : behindInMarks op b = false := by first | exact nomark _ (by decide) (by decide) | rfl) : VTX X g W B O (.Compare a [op] [b] pos) (dTX (d2XL h fx f2)) := by
  obtain ⟨r, ho, hr⟩ := o
  refine pt_imp (pt_cmpR ho ha hb hm) fun σ H Q ⟨F, ρ, G, P⟩ => ?_
  refine xl_op (kd := .fz) hr σ H _ (tX_then G P fun z v F1 H1 G1 x1 r1 P1 => ?_)
  have r1 : Rep X.K g F1 z.1 v := r1
  obtain ⟨d, ρ1⟩ := z
  cases d <;> first | exact False.elim P1 | skip
  rw [Rep] at r1
  exact ⟨_, r1, P1 F1 H1 G1 x1⟩
/-! [E] -/
def dLst1X (fx : List Dt → R (Dt × List Dt)) : List Dt → R (Dt × List Dt) := fun ρ => rbind (fx ρ) fun z => rok (.lst [z.1], z.2)
theorem vx_lst1 (h : VX X g W B O .fz a fx) (he : starEach [a] X.env = (false, eval a X.env) :: starEach [] X.env := by rfl) : VX X g W B O .own (.List [a] pos) (dLst1X fx) := pe_imp (pe_lst (pa_cons h pa_nil he)) fun σ H Q ⟨F, ρ, G, P⟩ =>
  tX_then G P fun z v F1 H1 G1 x1 r1 P1 => by
    have r1 : Rep X.K g F1 z.1 v := r1
    refine ⟨by rw [sizeLine_eq]; simp, fun p hp => ?_⟩
    exact post_new G1 (fin (r := rok (.lst [z.1])) x1 P1) hp (reps_cons r1 reps_nil)
/-! range(E) -/
def iRngX (fx : List Dt → R (Dt × List Dt)) : List Dt → R (List Dt × List Dt) := fun ρ => rbind (fx ρ) fun z => rbind (rng1 [z.1]) fun ds => rok (ds, z.2)
theorem vix_range1 {tg : Expr} (hm : X.mg "range" = none) (h : VX X g W B O .ct a fx) (hg : Gl X "range" := by rfl) (hs : starEach [a] X.env = [(false, eval a X.env)] := by rfl) : VIX X g W B O tg (.Call (.Name "range" p0) [a] [] pos) (iRngX fx) := pi_imp (pi_range1 hg hm (pa_cons h pa_nil hs) hs) fun σ H R ⟨F, ρ, G, P⟩ =>
  tX_then G P fun z v F1 H1 G1 x1 r1 P1 => by
    obtain ⟨d, ρ1⟩ := z
    cases d with
    | int j =>
      have r1 : RepC X.K g F1 H1 (.int j) v := r1
      have e1 := repC_int r1
      subst e1
      by_cases c : inR j = true
      · have q : rng1 [.int j] = rok (rng 0 j.toNat) := if_pos c
        have P1 : PostX (ErW g W B) (rbind (rng1 [.int j]) fun ds => rok (ds, ρ1)) _ := P1
        rw [q] at P1
        have c' := of_decide_eq_true c
        exact ⟨j, rfl, c'.1, c'.2, P1 _ F1 H1 G1 x1 (walk_rng 0 _)⟩
      · have q : rng1 [.int j] = none := if_neg c
        have P1 : PostX (ErW g W B) (rbind (rng1 [.int j]) fun ds => rok (ds, ρ1)) _ := P1
        rw [q] at P1; exact P1.elim
    | _ => exact P1.elim
end
end VL

set_option Elab.async false
set_option linter.all false
set_option maxRecDepth 100000
set_option maxHeartbeats 4000000
namespace VL
open PySem PySem.Spec PyProof.Rows L2
section
variable {X : Cx} {g : Cfg} {W : WX} {B : Base} {O O1 O2 O' : List SK} {pos p0 apos : Pos} {kd kd1 : Kd} {rk : RK} {a b c e : Expr} {es : List Expr} {f f1 f2 f3 : List Dt → R Dt} {fx fy : List Dt → R (Dt × List Dt)} {fs : List Dt → R (List Dt)} {p p1 p2 : List Dt → R Bool} {s s1 s2 : List Dt → R Fl} {st : Stmt} {rest : List Stmt} {F F1 F2 H H1 H2 : Hp} {ρ ρ1 ρ2 : List Dt} {σ : St} {Q : VK}
/-! ### statements with an expression that writes the frame's object -/
def dSetX (i : Nat) (fx : List Dt → R (Dt × List Dt)) : List Dt → R Fl := fun ρ => rbind (fx ρ) fun z => rok (.nx (z.2.set i z.1))
theorem vs_setX (i : Nat) {x : Str} {pos' : Pos} (hN : X.N.Nodup) (h : VX X g W B O .fz e fx) (hi : X.N[i]? = some x := by rfl) (hx : Loc X.env.scope x := by first | exact Or.inl rfl | exact Or.inr rfl) (hs : swapsWith e (some (.Name x pos')) pos.line X.env = pure false := by rfl)
    (hf : X.fn x = true ∨ X.env.scope.names.lookup x = some .local := by first | exact .inl rfl | exact .inr rfl) : VS X g W B rk O (O.set i .fz) (.Assign [.Name x pos'] e pos) (dSetX i fx) := ps_imp (ps_set hN hi hx h hs hf) fun D σ H ⟨F, ρ, G, P⟩ =>
  tX_then G P fun z v F1 H1 G1 x1 r1 P1 => P1 F1 _ H1 (G1.set i r1) x1.f
theorem vs_setOX (i : Nat) {x : Str} {pos' : Pos} (hN : X.N.Nodup) (h : VX X g W B O .own e fx) (hi : X.N[i]? = some x := by rfl) (hx : Loc X.env.scope x := by first | exact Or.inl rfl | exact Or.inr rfl) (hs : swapsWith e (some (.Name x pos')) pos.line X.env = pure false := by rfl)
    (hf : X.fn x = true ∨ X.env.scope.names.lookup x = some .local := by first | exact .inl rfl | exact .inr rfl) : VS X g W B rk O (O.set i .own) (.Assign [.Name x pos'] e pos) (dSetX i fx) := ps_imp (ps_set hN hi hx h hs hf) fun D σ H ⟨F, ρ, G, P⟩ =>
  tX_then G P fun z v F1 H1 G1 x1 r1 P1 => P1 F1 _ H1 (G1.setO i r1.1 r1.2.1) x1.f
def dRetMX (fx : List Dt → R (Dt × List Dt)) : List Dt → R Fl := fun ρ => rbind (fx ρ) fun z => match z.2[0]? with
  | some d0 => rok (.rt (.tup [z.1, d0]))
  | none => none
theorem vs_retMX (h : VX X g W B O .fz e fx) (hO : O[0]? = some .me := by rfl) : VS X g W B .mu O O' (.Return (some e) pos) (dRetMX fx) := ps_imp (ps_ret h) fun D σ H ⟨F, ρ, G, P⟩ =>
  tX_then G P fun z v F1 H1 G1 x1 r1 P1 => by
    obtain ⟨d1, o, h1, h2, p', h3, h4, m'⟩ := slot_there G1 hO
    have P1 : PostX (ErW g W B) (match z.2[0]? with | some d0 => (rok (Fl.rt (.tup [z.1, d0])) : R Fl) | none => none) _ := P1
    rw [h1] at P1
    exact P1 v F1 H1 G1.ret ⟨z.1, d1, p', rfl, h3, r1, m'⟩
def dIfSX (p : List Dt → R (Bool × List Dt)) (s1 s2 : List Dt → R Fl) : List Dt → R Fl := fun ρ => rbind (p ρ) fun z => if z.1 then s1 z.2 else s2 z.2
theorem vs_ifX {b1 b2 : List Stmt} {px : List Dt → R (Bool × List Dt)} (hc : VTX X g W B O c px) (ha : VSs X g W B rk O O1 b1 s1) (hb : VSs X g W B rk O O1 b2 s2) : VS X g W B rk O O1 (.If c b1 b2 pos) (dIfSX px s1 s2) := ps_imp (ps_if hc ha hb) fun D σ H ⟨F, ρ, G, P⟩ =>
  ⟨F, ρ, G, PostX.mono (PostX.bind P) (fun _ z => z) fun z _ P1 F1 H1 G1 x1 => by
    obtain ⟨k, ρ1⟩ := z
    cases k with
    | true => exact ⟨F1, ρ1, G1, PostS.at x1.f P1⟩
    | false => exact ⟨F1, ρ1, G1, PostS.at x1.f P1⟩⟩
def dForX (it : List Dt → R (List Dt × List Dt)) (set : Dt → List Dt → Option (List Dt)) (s : List Dt → R Fl) : List Dt → R Fl := fun ρ => rbind (it ρ) fun z => dForL set s z.1 z.2
theorem vs_forX {tg : Expr} {is : List Nat} {body : List Stmt} {it : List Dt → R (List Dt × List Dt)} {set : Dt → List Dt → Option (List Dt)} (hp : PassesOwn (model X.prog X.w) X.A X.env X.xe) (hc : X.calm = true) (hi : VIX X g W B O tg e it) (hg : VG X g B O O1 is tg set) (hb : VSs X g W B rk O1 O body s)
    (hs : ∀ x, foldedSetIterable e X.env x = pure x := by intro _; rfl) : VS X g W B rk O O (.For tg e body [] pos) (dForX it set s) := ps_imp (ps_for hp hc hi hg hb hs) fun D σ H ⟨F, ρ, G, P⟩ => by
  refine ⟨F, ρ, G, PostX.mono (PostX.bind P) (fun _ z => z) fun z _ P1 J F1 H1 G1 x1 wk1 => ?_⟩
  obtain ⟨ds, ρ⟩ := z
  have P1' : PostS X.K g W B rk O F1 (dForL set s ds ρ) D := PostS.at x1.f P1
  refine ⟨fun i m σ H => m = ds.length - i ∧ ∃ F2 ρ, Good X.K g B O F2 ρ σ H ∧ Same F1 F2 ∧ PostS X.K g W B rk O F2 (dForL set s (ds.drop i) ρ) D, ⟨_, rfl, F1, ρ, G1, fun _ _ z => z, P1'⟩, ?_⟩
  rintro i m σ H ⟨rfl, F2, ρ, G2, s2, P2⟩
  have w := wk1 O i ρ σ H F2 G2 s2
  cases q : ds[i]? with
  | none =>
    rw [show (ds, _).1[i]? = none from q] at w
    have hl : ds.length ≤ i := List.getElem?_eq_none_iff.mp q
    rw [List.drop_eq_nil_of_le hl] at P2
    exact .inl ⟨w, P2 F2 σ H G2 (fun _ _ z => z)⟩
  | some d =>
    rw [show (ds, _).1[i]? = some d from q] at w
    obtain ⟨w1, w2⟩ := w
    have hl : i < ds.length := (List.getElem?_eq_some_iff.mp q).1
    have hd : ds.drop i = d :: ds.drop (i + 1) := by
      rw [List.drop_eq_getElem_cons hl]
      rw [List.getElem?_eq_getElem hl] at q
      cases q; rfl
    rw [hd] at P2
    refine .inr ⟨w1, fun σ' H' => ∃ F3 ρ, Good X.K g B O F3 ρ σ' H' ∧ Same F1 F3 ∧ PostS X.K g W B rk O F3 (dForL set s (ds.drop (i + 1)) ρ) D, fun σ' H' h => ⟨_, by omega, rfl, h⟩, fun x H' y => ?_⟩
    obtain ⟨F3, G3, x3, r3⟩ := w2 x H' y
    have P3 : PostX (ErW g W B) ((set d ρ).map Except.ok) _ := PostX.bind (PostS.at x3.f P2)
    cases e : set d ρ with
    | none => rw [e] at P3; exact P3.elim
    | some ρ1 =>
      rw [e] at P3
      refine ⟨F3, ρ, d, G3, r3, ρ1, e, fun σ' G4 _ => ?_⟩
      refine ⟨F3, ρ1, G4, PostX.mono (PostX.bind P3) (fun _ z => z) fun fl _ q => ?_⟩
      cases fl with
      | nx ρ2 => exact fun F5 σ5 H5 G5 s5 => ⟨F5, ρ2, G5, s2.trans (x3.f.trans s5), PostS.at s5 q⟩
      | rt d => exact q
/-! x.extend(E), x.append(E) -/
theorem list_methX {i : Nat} {x name : Str} {id : String} {px apos cpos : Pos} {r : V → List V → Hp → VK → Prop} {k : List Dt → List Dt → R (List Dt)} (slot : Slot "list" name id) (hty : typeOf (.builtin id) = pure (.type "method_descriptor")) (hm : MtR X id r) (ha : VX X g W B O .fz e fx)
    (ok : ∀ p l vs ds ws F H Q er (okk : List Dt → Prop), H p = some (.lst vs) → Reps X.K g F l vs → Reps X.K g F ds ws → Same F H → PostX er (k ds l) okk → (∀ l' vs' v, okk l' → Reps X.K g F l' vs' → Q v (upd H p (.lst vs'))) → r (.ref p) ws H Q)
    (hO : O[i]? = some .own := by rfl) (hN : X.N[i]? = some x := by rfl) (hv : Vis X.env.scope x := by first | exact Or.inl rfl | exact Or.inr (Or.inl rfl) | exact Or.inr (Or.inr rfl)) (hd : (x == ("__debug__" : Str)) = false := by decide) (hcd : (x == ("__classdict__" : Str)) = false := by decide)
    (hbase : attributeBase (.Name x px) name X.env (eval (.Name x px) X.env) = eval (.Name x px) X.env := by rfl)
    (hfew : ((backTo cpos (starEach [e] X.env)).all (fun x => !x.1) && (backToKw cpos (keywordEach [] X.env)).all (fun x => x.1.isSome)
      && decide ([e].length + ([] : List Keyword).length + (if ([] : List Keyword).isEmpty then 0 else 1) < 30)) = true := by rfl)
    (hline : (apos.endLine == cpos.line) = true := by rfl) (hs : starEach [e] X.env = (false, eval e X.env) :: starEach [] X.env := by rfl) (hplain : (backTo cpos (starEach [] X.env)).any (·.1) = false := by rfl)
    (hsw : swapsWith (.Call (.Attribute (.Name x px) name apos) [e] [] cpos) none pos.line X.env = pure false := by rfl) :
    VS X g W B rk O O (.Expr (.Call (.Attribute (.Name x px) name apos) [e] [] cpos) pos) (fun ρ => rbind (fx ρ) fun z => onLst i (k [z.1]) z.2) := ps_imp (ps_expr (pe_bm PySem.F.plainAttrs_list slot hty hm (pe_var hN hv hd hcd) (pa_cons ha pa_nil hs) hbase hfew hline hs hplain) hsw) fun D σ H ⟨F, ρ, G, P⟩ => by
  obtain ⟨d, o, h1, h2, v, h3, q, vs, l, a1, a2, a3, a4, a5, a6⟩ := slot_there G hO
  subst h3 a1
  refine ⟨_, h2, .inl ⟨rfl, _, SqL.of a3⟩, tX_then G P fun z yv F1 H1 G1 x1 r1 P1 => ?_⟩
  obtain ⟨y, ρ1⟩ := z
  have P2 : PostX (ErW g W B) (onLst i (k [y]) ρ1) _ := P1
  have r1 : Rep X.K g F1 y yv := r1
  unfold onLst at P2
  obtain ⟨d', o', b1, b2, v', b3, q', vs', l', c1, c2, c3, c4, c5, c6⟩ := slot_there G1 hO
  rw [h2] at b2; cases b2
  cases b3
  cases c1
  subst c2
  have b1 : ρ1[i]? = some (.lst l') := b1
  rw [b1] at P2
  refine ok q l' vs' [y] [yv] F1 H1 _ _ _ c3 c6 (reps_cons r1 reps_nil) G1.sub (PostX.bind P2) fun l2 vs2 _ q2 r2 => ?_
  exact q2 F1 σ _ (G1.writeO hO h2 c3 c4 c5 r2) x1.f
def dAppendX (i : Nat) (fx : List Dt → R (Dt × List Dt)) : List Dt → R Fl := fun ρ => rbind (fx ρ) fun z => onLst i (kAppend [z.1]) z.2
theorem vs_appendX (i : Nat) {x : Str} {px apos cpos : Pos} (ha : VX X g W B O .fz e fx) (hO : O[i]? = some .own := by rfl) (hN : X.N[i]? = some x := by rfl) (hv : Vis X.env.scope x := by first | exact Or.inl rfl | exact Or.inr (Or.inl rfl) | exact Or.inr (Or.inr rfl)) (hd : (x == ("__debug__" : Str)) = false := by decide) (hcd : (x == ("__classdict__" : Str)) = false := by decide)
    (hbase : attributeBase (.Name x px) "append" X.env (eval (.Name x px) X.env) = eval (.Name x px) X.env := by rfl)
    (hfew : ((backTo cpos (starEach [e] X.env)).all (fun x => !x.1) && (backToKw cpos (keywordEach [] X.env)).all (fun x => x.1.isSome)
      && decide ([e].length + ([] : List Keyword).length + (if ([] : List Keyword).isEmpty then 0 else 1) < 30)) = true := by rfl)
    (hline : (apos.endLine == cpos.line) = true := by rfl) (hs : starEach [e] X.env = (false, eval e X.env) :: starEach [] X.env := by rfl) (hplain : (backTo cpos (starEach [] X.env)).any (·.1) = false := by rfl)
    (hsw : swapsWith (.Call (.Attribute (.Name x px) "append" apos) [e] [] cpos) none pos.line X.env = pure false := by rfl) :
    VS X g W B rk O O (.Expr (.Call (.Attribute (.Name x px) "append" apos) [e] [] cpos) pos) (dAppendX i fx) :=
  list_methX (k := kAppend) PySem.F.slot_list_append PySem.F.type_list_append mt_append ha (fun p l vs ds ws F H Q er okk h1 h2 h3 h4 P k => by
    match ds, P, h3 with
    | [d], P, h3 =>
      rw [Reps] at h3
      obtain ⟨v, r, rfl, h5, h6⟩ := h3
      rw [Reps] at h6
      subst h6
      by_cases c : l.length < 16777216
      · have q : kAppend [d] l = rok (l ++ [d]) := if_pos c
        rw [q] at P
        exact ⟨p, vs, v, rfl, rfl, h1, by rw [← reps_len h2, sizeLine_eq]; exact c, k _ _ _ P (reps_append h2 (reps_cons h5 reps_nil))⟩
      · have q : kAppend [d] l = none := if_neg c
        rw [q] at P; exact P.elim
    | [], P, _ => exact P.elim
    | _ :: _ :: _, P, _ => exact P.elim) hO hN hv hd hcd hbase hfew hline hs hplain hsw
def dExtendX (i : Nat) (fx : List Dt → R (Dt × List Dt)) : List Dt → R Fl := fun ρ => rbind (fx ρ) fun z => onLst i (kExtend [z.1]) z.2
theorem vs_extendX (i : Nat) {x : Str} {px apos cpos : Pos} (ha : VX X g W B O .fz e fx) (hO : O[i]? = some .own := by rfl) (hN : X.N[i]? = some x := by rfl) (hv : Vis X.env.scope x := by first | exact Or.inl rfl | exact Or.inr (Or.inl rfl) | exact Or.inr (Or.inr rfl)) (hd : (x == ("__debug__" : Str)) = false := by decide) (hcd : (x == ("__classdict__" : Str)) = false := by decide)
    (hbase : attributeBase (.Name x px) "extend" X.env (eval (.Name x px) X.env) = eval (.Name x px) X.env := by rfl)
    (hfew : ((backTo cpos (starEach [e] X.env)).all (fun x => !x.1) && (backToKw cpos (keywordEach [] X.env)).all (fun x => x.1.isSome)
      && decide ([e].length + ([] : List Keyword).length + (if ([] : List Keyword).isEmpty then 0 else 1) < 30)) = true := by rfl)
    (hline : (apos.endLine == cpos.line) = true := by rfl) (hs : starEach [e] X.env = (false, eval e X.env) :: starEach [] X.env := by rfl) (hplain : (backTo cpos (starEach [] X.env)).any (·.1) = false := by rfl)
    (hsw : swapsWith (.Call (.Attribute (.Name x px) "extend" apos) [e] [] cpos) none pos.line X.env = pure false := by rfl) :
    VS X g W B rk O O (.Expr (.Call (.Attribute (.Name x px) "extend" apos) [e] [] cpos) pos) (dExtendX i fx) :=
  list_methX (k := kExtend) PySem.F.slot_list_extend PySem.F.type_list_extend mt_extend ha (fun p l vs ds ws F H Q er okk h1 h2 h3 h4 P k => by
    match ds, P, h3 with
    | [.lst m], P, h3 =>
      rw [Reps] at h3
      obtain ⟨v, r, rfl, h5, h6⟩ := h3
      rw [Reps] at h6
      subst h6
      rw [Rep] at h5
      obtain ⟨q, zs, rfl, h7, h8⟩ := h5
      by_cases c : l.length + m.length ≤ 16777216
      · have e : kExtend [.lst m] l = rok (l ++ m) := if_pos c
        rw [e] at P
        exact ⟨p, q, vs, zs, rfl, rfl, h1, h4 _ _ h7, by rw [← reps_len h2, ← reps_len h8, sizeLine_eq]; exact c, k _ _ _ P (reps_append h2 h8)⟩
      · have e : kExtend [.lst m] l = none := if_neg c
        rw [e] at P; exact P.elim
    | [], P, _ => exact P.elim
    | .non :: _, P, _ => exact P.elim
    | .bl _ :: _, P, _ => exact P.elim
    | .str _ :: _, P, _ => exact P.elim
    | .int _ :: _, P, _ => exact P.elim
    | .tup _ :: _, P, _ => exact P.elim
    | .obj _ _ :: _, P, _ => exact P.elim
    | .scr _ :: _, P, _ => exact P.elim
    | .exc _ :: _, P, _ => exact P.elim
    | .dct _ _ :: _, P, _ => exact P.elim
    | .lst _ :: _ :: _, P, _ => exact P.elim) hO hN hv hd hcd hbase hfew hline hs hplain hsw
/-! ### an object that the frame makes and writes -/
theorem Good.reme {K : PySem.W.Frag} {q : Option Addr} (hm : noMe O = true) (G : Good K g B O F ρ σ H) : Good K g ⟨B.H, B.F, q⟩ O F ρ σ H where
  lenO := G.lenO
  lenR := G.lenR
  b0 := G.b0
  bF := G.bF
  sub := G.sub
  new := G.new
  slot := fun i k d o h1 h2 h3 => by
    have r := G.slot i k d o h1 h2 h3
    cases k with
    | un => trivial
    | fz => exact r
    | own => exact r
    | me => exact absurd h1 (noMe_of hm i)
    | bo => exact r
  apart := G.apart
theorem Good.setM {K : PySem.W.Frag} {p : Addr} {d : Dt} (G : Good K g B O F ρ σ H) (i : Nat) (hme : B.me = some p) (m : MeAt K g F H p d) : Good K g B (O.set i .me) F (ρ.set i d) (σ.set i (some (.ref p))) H where
  lenO := by simpa using G.lenO
  lenR := by simpa using G.lenR
  b0 := G.b0
  bF := G.bF
  sub := G.sub
  new := G.new
  slot := fun j k d' o h1 h2 h3 => by
    rcases getE_set h1 with ⟨a1, a2⟩ | ⟨a1, a2⟩
    · subst a1 a2
      rcases getE_set h2 with ⟨_, b2⟩ | ⟨b1, _⟩
      · rcases getE_set h3 with ⟨_, c2⟩ | ⟨c1, _⟩
        · subst b2 c2; exact ⟨p, hme, rfl, m⟩
        · exact absurd rfl c1
      · exact absurd rfl b1
    · rw [List.getElem?_set_ne (Ne.symm a1)] at h2 h3
      exact G.slot j k d' o a2 h2 h3
  apart := fun j k p h1 h2 h3 h4 => by
    rcases getE_set h1 with ⟨_, a2⟩ | ⟨a1, a2⟩
    · cases a2
    · rcases getE_set h2 with ⟨_, b2⟩ | ⟨b1, b2⟩
      · cases b2
      · rw [List.getElem?_set_ne (Ne.symm a1)] at h3
        rw [List.getElem?_set_ne (Ne.symm b1)] at h4
        exact G.apart j k p a2 b2 h3 h4
def dNewM (i : Nat) (f : List Dt → R Dt) (s : List Dt → R Fl) : List Dt → R Fl := fun ρ => rbind (f ρ) fun d => rbind (s (ρ.set i d)) fun fl => match fl with
  | .rt d => rok (.rt d)
  | .nx _ => none
theorem vss_newM {k n : Nat} {fa : Addr} {fd : FuncData} {ps : List Str} {h : List Dt → R Dt} {x y : Str} {py cpos : Pos} (i c nf : Nat) (hrk : rk ≠ .mu) (tk : Takes X W) (M : Mk X.K (g.oC c) fa) (Fo : FnOk X.prog X.w X.K X.mg X.base (L2.CX X.prog X.w) k fa fd ps (spM X.K g n h)) (hr : Room (k + 1) X.A) (hm : X.mg x = some (.ref (g.oC c))) (hb : Binds X.K fd ps []) (ha : VA X g W B O .fz (e :: es) fs)
    (hn : ∀ (ρ : List Dt) (ds : List Dt), fs ρ = some (.ok ds) → ds.length = n) (hND : X.N.Nodup) (hrest : ∀ q : Addr, B.H q = none → VSs X g W ⟨B.H, B.F, some q⟩ rk (O.set i .me) O' rest s)
    (hnf : (g.oN c).length = nf := by rfl) (hme : noMe O = true := by rfl) (hi : X.N[i]? = some y := by rfl) (hy : Loc X.env.scope y := by first | exact Or.inl rfl | exact Or.inr rfl) (hg : Gl X x := by rfl) (hdb : (x == ("__debug__" : Str)) = false := by decide)
    (he : starEach (e :: es) X.env = (false, eval e X.env) :: starEach es X.env := by rfl) (hpl : (backTo cpos (starEach es X.env)).any (·.1) = false := by rfl)
    (hs : swapsWith (.Call (.Name x p0) (e :: es) [] cpos) (some (.Name y py)) pos.line X.env = pure false := by rfl)
    (hf : X.fn y = true ∨ X.env.scope.names.lookup y = some .local := by first | exact .inl rfl | exact .inr rfl) :
    VSs X g W B rk O O1 (.Assign [.Name y py] (.Call (.Name x p0) (e :: es) [] cpos) pos :: rest) (dNewM i (dNew c nf h fs) s) := by
  have h2 : PSs X rest (fun D σ H => ∃ q, B.H q = none ∧ tS X.K g W ⟨B.H, B.F, some q⟩ rk (O.set i .me) O' s D σ H) := ⟨fun pins s σ H D I ⟨q, hq, z⟩ => (hrest q hq).run pins s σ H D I z⟩
  refine pss_imp (pss_cons (ps_set hND hi hy (pe_makeW M Fo hr hg hm hb (fun σ => passAt tk σ) ha hdb he hpl) hs hf) h2) fun D σ H ⟨F, ρ, G, P⟩ => ?_
  have P0 : PostX (ErW g W B) (rbind (rbind (fs ρ) fun ds => rbind (h (.obj c [] :: ds)) (newD c nf)) fun d => rbind (s (ρ.set i d)) fun fl => (match fl with
    | Fl.rt d => rok (Fl.rt d)
    | Fl.nx _ => none : R Fl)) _ := P
  rw [rbind_assoc] at P0
  refine ⟨F, ρ, G, PostX.mono (PostX.bind P0) (fun _ z => erW z) fun ds e P1 vs F1 H1 G1 x1 r1 => ?_⟩
  intro x dx hx hdx ne
  have hx' : (upd H1 dx (.own x)) x = none := by rw [upd_ne (Ne.symm ne)]; exact hx
  have s12 : Same H1 (upd (upd H1 dx (.own x)) x (.ins (g.oC c) dx [])) := (same_upd hdx).trans (same_upd hx')
  have me0 : MeAt X.K g F1 (upd (upd H1 dx (.own x)) x (.ins (g.oC c) dx [])) x (.obj c []) := ⟨c, [], dx, [], rfl, by rw [upd_same, List.zip_nil_right], Nat.zero_le _, reps_nil, G1.fnone hx⟩
  have sH : ∀ H' : Hp, Same (er (upd (upd H1 dx (.own x)) x (.ins (g.oC c) dx [])) x) H' → Same H1 H' := fun H' s a o e => s _ _ (by rw [er_ne (ne_of_none e hx)]; exact s12 _ _ e)
  have r1 : Reps X.K g F1 ds vs := r1
  rw [rbind_assoc] at P1
  refine ⟨F1, x, .obj c [], ds, vs, rfl, me0, G1.sub.trans s12, hn ρ ds e, r1, PostX.mono (PostX.bind P1) (fun c z H' s => z σ H' (G1.b0.trans (sH H' s))) fun d _ q v F' H' rg ro => ?_⟩
  obtain ⟨r, d1, p', rfl, e3, r2, me2⟩ := ro
  cases e3
  obtain ⟨l, rfl, rfl, hl, q⟩ := newD_inv (PostX.bind q)
  have hnew : ∀ (a : Addr) (o : HO), F' a = some o → F1 a = some o ∨ H1 a = none := fun a o e => by
    rcases rg.1.n a o e with z | z
    · exact .inl z
    · refine .inr ?_
      by_cases ha : a = x
      · rw [ha]; exact hx
      · have z : er (upd (upd H1 dx (.own x)) x (.ins (g.oC c) dx [])) x a = none := z
        rw [er_ne ha] at z
        exact s12.free z
  have G2 : Good X.K g B O F' ρ σ H' := G1.grow rg.1.f (sH H' rg.1.h) rg.2 hnew
  have G3 := (G2.reme (q := some x) hme).setM i rfl me2
  refine ⟨by simpa [Rep] using r2, x, G1.b0.free hx, F', _, G3, PostX.mono (PostX.bind q) (fun _ z => z) fun fl _ q2 => ?_⟩
  cases fl with
  | nx ρ' => exact q2.elim
  | rt d =>
    intro v' F2 H2 rg2 ro2
    refine q2 v' F2 H2 rg2 ?_
    cases rk with
    | flat => exact ro2
    | fz => exact ro2
    | own => exact ro2
    | ownf => exact ro2
    | mu => exact absurd rfl hrk
end
end VL

set_option Elab.async false
set_option linter.all false
set_option maxRecDepth 100000
set_option maxHeartbeats 4000000
namespace VL
open PySem PySem.Spec PyProof.Rows L2
/-! ### list comprehensions whose element writes the frame's object -/
def dCompXL (i : Nat) (set : Dt → List Dt → Option (List Dt)) (f : List Dt → R (Dt × List Dt)) : List Dt → List Dt → Option (List Dt × List Dt)
  | ρ, [] => some ([], ρ)
  | ρ, d :: ds => (set d ρ).bind fun ρ1 => (val (f ρ1)).bind fun z => (z.2[i]?).bind fun d1 => (dCompXL i set f (ρ.set i d1) ds).map fun r => (z.1 :: r.1, r.2)
def dCompX (i : Nat) (it : List Dt → R (List Dt × List Dt)) (set : Dt → List Dt → Option (List Dt)) (f : List Dt → R (Dt × List Dt)) : List Dt → R (Dt × List Dt) := fun ρ => rbind (it ρ) fun z => if z.1.length < 16777216 then (dCompXL i set f z.2 z.1).map fun r => Except.ok (Dt.lst r.1, r.2) else none
section
variable {X : Cx} {g : Cfg} {W : WX} {B : Base} {O O1 O2 O' : List SK} {pos p0 apos : Pos} {kd kd1 : Kd} {rk : RK} {a b c e : Expr} {es : List Expr} {f f1 f2 f3 : List Dt → R Dt} {fx fy : List Dt → R (Dt × List Dt)} {fs : List Dt → R (List Dt)} {s s1 s2 : List Dt → R Fl} {st : Stmt} {rest : List Stmt}
def iOfX (it : List Dt → R (List Dt)) : List Dt → R (List Dt × List Dt) := fun ρ => rbind (it ρ) fun ds => rok (ds, ρ)
theorem vix_of {tg : Expr} {it : List Dt → R (List Dt)} (h : VI X g W B O tg e it) : VIX X g W B O tg e (iOfX it) := pi_imp h fun σ H R ⟨F, ρ, G, P⟩ =>
  ⟨F, ρ, G, PostX.mono (PostX.bind P) (fun _ z => erW z) fun ds _ P1 J F1 H1 G1 x1 wk => P1 J F1 H1 G1 (.of x1) wk⟩
theorem lcX_core {i : Nat} {it : List Dt → R (List Dt × List Dt)} {set : Dt → List Dt → Option (List Dt)} {vs : List Nat} (hO : O[i]? = some .me) (hO1 : O1[i]? = some .me) (hu : noMe (O.set i .un) = true) (hB : ∀ p, B.me = some p → B.H p = none) (σ : St) (H : Hp) (Q : VK) (P : tX X.K g W B O .own (dCompX i it set fx) σ H Q) :
    tLc (tIX X.K g W B O it) (tG X.K g B (wipeO O vs) O1 vs set) (tT X.K g W0 B O1 pYes) (tX X.K g W0 B O1 .fz fx) vs σ H Q := by
  obtain ⟨F, ρ0, G, P⟩ := P
  refine ⟨F, ρ0, G, PostX.mono (PostX.bind P) (fun _ z => z) fun z _ P1 J F1 H1 G1 x1 wk1 => ?_⟩
  obtain ⟨ds, ρ⟩ := z
  have wk1 : WalkOk X.K g B J ds F1 := wk1
  have G1 : Good X.K g B O F1 ρ σ H1 := G1
  have P1 : PostX (ErW g W B) (if ds.length < 16777216 then (dCompXL i set fx ρ ds).map fun r => Except.ok (Dt.lst r.1, r.2) else none) _ := P1
  intro D hD
  by_cases cl : ds.length < 16777216
  · rw [if_pos cl] at P1
    cases ql : dCompXL i set fx ρ ds with
    | none => rw [ql] at P1; exact P1.elim
    | some lr =>
      obtain ⟨l, ρe⟩ := lr
      rw [ql] at P1
      have P1 : ∀ v F' H', Good X.K g B O F' ρe σ H' → ExtM B F H F' H' → ResOk X.K g B O H F' σ H' .own (.lst l) v → Q v H' := P1
      have hBD : B.H D = none := G1.b0.free hD
      refine ⟨fun j m H2 => m = ds.length - j ∧ j ≤ ds.length ∧ ∃ F2 ρ2 acc accd rest, Good X.K g B O F2 ρ2 σ H2 ∧ ExtM B F1 H1 F2 H2 ∧ H2 D = some (.lst acc) ∧ F2 D = none ∧ Reps X.K g F2 accd acc ∧ dCompXL i set fx ρ2 (ds.drop j) = some (rest, ρe) ∧ accd ++ rest = l ∧ acc.length ≤ j, ?_, ?_⟩
      · exact ⟨_, rfl, Nat.zero_le _, F1, ρ, [], [], l, G1.alloc hD, .of ⟨fun _ _ z => z, same_upd hD, fun _ _ z => .inl z⟩, upd_same, G1.fnone hD, reps_nil, ql, rfl, Nat.le_refl _⟩
      · rintro j m H2 ⟨rfl, hj, F2, ρ2, acc, accd, rest, G2, x2, h2D, hF2D, r2, q2, e2, hlen⟩
        have G2w := G2.wiped vs
        have w := wk1 _ j ρ2 (wipe σ vs) H2 F2 G2w x2.f
        cases q : ds[j]? with
        | none =>
          rw [q] at w
          have hl : ds.length ≤ j := List.getElem?_eq_none_iff.mp q
          rw [List.drop_eq_nil_of_le hl] at q2
          cases q2
          rw [List.append_nil] at e2
          subst e2
          refine .inl ⟨w, P1 (.ref D) F2 H2 G2 (x1.trans x2) ⟨⟨D, acc, accd, rfl, rfl, h2D, hF2D, hBD, r2⟩, fun k hk hs => ?_, fun p' hp => ?_⟩⟩
          · exact G1.apartNew hD k hk hs
          · cases hp
            exact x1.t _ hD
        | some d =>
          rw [q] at w
          obtain ⟨w1, w2⟩ := w
          have hl : j < ds.length := (List.getElem?_eq_some_iff.mp q).1
          have hd : ds.drop j = d :: ds.drop (j + 1) := by
            rw [List.drop_eq_getElem_cons hl]
            rw [List.getElem?_eq_getElem hl] at q
            cases q; rfl
          rw [hd] at q2
          unfold dCompXL at q2
          cases qs : set d ρ2 with
          | none => rw [qs] at q2; cases q2
          | some ρ1 =>
            rw [qs] at q2
            have q2 : ((val (fx ρ1)).bind fun z => (z.2[i]?).bind fun d1 => (dCompXL i set fx (ρ2.set i d1) (ds.drop (j + 1))).map fun r => (z.1 :: r.1, r.2)) = some (rest, ρe) := q2
            cases qf : val (fx ρ1) with
            | none => rw [qf] at q2; cases q2
            | some z =>
              rw [qf] at q2
              have q2 : ((z.2[i]?).bind fun d1 => (dCompXL i set fx (ρ2.set i d1) (ds.drop (j + 1))).map fun r => (z.1 :: r.1, r.2)) = some (rest, ρe) := q2
              cases qd : z.2[i]? with
              | none => rw [qd] at q2; cases q2
              | some d1 =>
                rw [qd] at q2
                have q2 : ((dCompXL i set fx (ρ2.set i d1) (ds.drop (j + 1))).map fun r => (z.1 :: r.1, r.2)) = some (rest, ρe) := q2
                cases qr : dCompXL i set fx (ρ2.set i d1) (ds.drop (j + 1)) with
                | none => rw [qr] at q2; cases q2
                | some rr =>
                  rw [qr] at q2
                  cases q2
                  refine .inr ⟨w1, fun H' => ∃ F2 ρ2 acc accd rest, Good X.K g B O F2 ρ2 σ H' ∧ ExtM B F1 H1 F2 H' ∧ H' D = some (.lst acc) ∧ F2 D = none ∧ Reps X.K g F2 accd acc ∧ dCompXL i set fx ρ2 (ds.drop (j + 1)) = some (rest, rr.2) ∧ accd ++ rest = l ∧ acc.length ≤ j + 1,
                    fun H' h => ⟨_, by omega, rfl, by omega, h⟩, fun x H3 y => ?_⟩
                  obtain ⟨F3, G3, x3, r3⟩ := w2 x H3 y
                  refine ⟨F3, ρ2, d, G3, r3, ρ1, qs, fun σ' G' hw => ⟨by rw [hw, wipe_wipe], ?_⟩⟩
                  refine ⟨F3, ρ1, G', ?_⟩
                  intro F4 H4 G4 x4
                  refine ⟨F4, ρ1, G4, ?_⟩
                  rw [val_eq qf]
                  intro yv F5 H5 G5 x5 r5
                  have x25 : ExtM B F2 H2 F5 H5 := (ExtM.of (x3.trans x4)).trans x5
                  obtain ⟨d', o', k1, k2, p, k3, k4, m5⟩ := slot_there G5 hO1
                  rw [qd] at k1
                  cases k1
                  obtain ⟨d0, o0, _, _, p', n3, _, m2⟩ := slot_there G2 hO
                  rw [k3] at n3
                  cases n3
                  have hpD : p ≠ D := m2.ne h2D
                  have h5D : H5 D = some (.lst acc) := x25.h _ _ h2D (by rw [k3]; exact fun z => hpD (Option.some.inj z))
                  have hF5D : F5 D = none := by
                    cases z : F5 D with
                    | none => rfl
                    | some o =>
                      rcases x25.n D o z with u | u
                      · rw [hF2D] at u; cases u
                      · rw [h2D] at u; cases u
                  have hins : ∃ C dx fs, H2 p = some (.ins C dx fs) := by
                    obtain ⟨_, _, _, _, _, u, _⟩ := m2
                    exact ⟨_, _, _, u⟩
                  have G25 : Good X.K g B O F5 (ρ2.set i d1) σ H5 := G2.writeM k3 (hB p k3) hO hu m2.nF hins x25.f (fun a o e => by
                    by_cases ha : a = p
                    · subst ha; rw [er_at] at e; cases e
                    · rw [er_ne ha] at e
                      exact x25.h _ _ e (by rw [k3]; exact fun z => ha (Option.some.inj z).symm)) G5.sub (fun a o e => (x25.n a o e).imp id fun u => er_same.free u) m5
                  have x15 := x2.trans x25
                  refine ⟨acc, h5D, by rw [sizeLine_eq]; omega, F5, ρ2.set i d1, acc ++ [yv], accd ++ [z.1], rr.1, G25.writeN h5D hF5D hBD (fun k hk hs => G1.apartNew hD k hk hs), ⟨x15.f, fun a o e ne => ?_, fun a e => ?_, x15.n⟩, upd_same, hF5D, reps_append (reps_mono x25.f _ _ r2) (reps_cons r5 reps_nil), qr, by rw [← e2]; simp, by simp; omega⟩
                  · rw [upd_ne (ne_of_none e hD)]; exact x15.h _ _ e ne
                  · by_cases ha : a = D
                    · subst ha; exact hD
                    · rw [upd_ne ha] at e; exact x15.t _ e
  · rw [if_neg cl] at P1; exact P1.elim
theorem vx_lc (i : Nat) {elt tg iter : Expr} {ifs : List Expr} {scope : Scope} {own : List (Str × Nat)} {it : List Dt → R (List Dt × List Dt)} {set : Dt → List Dt → Option (List Dt)} (hB : ∀ p, B.me = some p → B.H p = none) (hc : X.calm = true) (hN : X.N.Nodup) (hi : VIX X g W B O tg iter it) (ok : BlkOk X.N X.env.scope scope own)
    (hg : ∀ (s : Shared) (H : Hp) (C : Addr) (cl : List (Str × Addr)) (fp : List Addr), VG (X.blk s H scope (compEnvC scope cl C X.env) fp) g B (wipeO O (own.map (·.2))) O1 (own.map (·.2)) tg set) (ht : ∀ (s : Shared) (H : Hp) (C : Addr) (cl : List (Str × Addr)) (fp : List Addr), VTs (X.blk s H scope (compEnvC scope cl C X.env) fp) g W0 B O1 ifs pYes)
    (he : ∀ (s : Shared) (H : Hp) (C : Addr) (cl : List (Str × Addr)) (fp : List Addr), VX (X.blk s H scope (compEnvC scope cl C X.env) fp) g W0 B O1 .fz elt fx)
    (hO : O[i]? = some .me := by rfl) (hO1 : O1[i]? = some .me := by rfl) (hu : noMe (O.set i .un) = true := by rfl) (hs : ∀ x, foldedSetIterable iter X.env x = pure x := by intro _; rfl) :
    VX X g W B O .own (.ListComp elt [⟨tg, iter, ifs, 0⟩] scope pos) (dCompX i it set fx) := pe_imp (pe_lc (own := own) (g := tG X.K g B (wipeO O (own.map fun q : Str × Nat => q.2)) O1 (own.map fun q : Str × Nat => q.2) set) (tt := tT X.K g W0 B O1 pYes) (te := tX X.K g W0 B O1 .fz fx) hc hN hi ok hg ht he hs) fun σ H Q P => lcX_core hO hO1 hu hB σ H Q P
theorem vs_setLcX (j i : Nat) {y : Str} {py spos : Pos} {elt tg iter : Expr} {ifs : List Expr} {scope : Scope} {own : List (Str × Nat)} {it : List Dt → R (List Dt × List Dt)} {set : Dt → List Dt → Option (List Dt)} (hB : ∀ p, B.me = some p → B.H p = none) (hc : X.calm = true) (hN : X.N.Nodup)
    (hi : VIX X g W B O tg iter it) (ok : BlkOk X.N X.env.scope scope own)
    (hg : ∀ (s : Shared) (H : Hp) (C : Addr) (cl : List (Str × Addr)) (fp : List Addr), VG (X.blk s H scope (compEnvC scope cl C X.env) fp) g B (wipeO O (own.map (·.2))) O1 (own.map (·.2)) tg set) (ht : ∀ (s : Shared) (H : Hp) (C : Addr) (cl : List (Str × Addr)) (fp : List Addr), VTs (X.blk s H scope (compEnvC scope cl C X.env) fp) g W0 B O1 ifs pYes)
    (he : ∀ (s : Shared) (H : Hp) (C : Addr) (cl : List (Str × Addr)) (fp : List Addr), VX (X.blk s H scope (compEnvC scope cl C X.env) fp) g W0 B O1 .fz elt fx)
    (hsw : swapsWith (.ListComp elt [⟨tg, iter, ifs, 0⟩] scope pos) (some (.Name y py)) spos.line X.env = pure true)
    (hO : O[i]? = some .me := by rfl) (hO1 : O1[i]? = some .me := by rfl) (hu : noMe (O.set i .un) = true := by rfl)
    (hy : X.N[j]? = some y := by rfl) (hyl : X.env.scope.names.lookup y = some .local := by rfl) (hs : ∀ x, foldedSetIterable iter X.env x = pure x := by intro _; rfl) :
    VS X g W B rk O (O.set j .own) (.Assign [.Name y py] (.ListComp elt [⟨tg, iter, ifs, 0⟩] scope pos) spos) (dSetX j (dCompX i it set fx)) := ps_imp (ps_setLc (own := own) (g := tG X.K g B (wipeO O (own.map fun q : Str × Nat => q.2)) O1 (own.map fun q : Str × Nat => q.2) set) (tt := tT X.K g W0 B O1 pYes) (te := tX X.K g W0 B O1 .fz fx) hc hN hy hyl hsw hi ok hg ht he hs) fun D σ H ⟨F, ρ, G, P⟩ => by
  refine lcX_core hO hO1 hu hB σ H _ ⟨F, ρ, G, PostX.mono (PostX.bind P) (fun _ z => z) fun z _ P1 v F1 H1 G1 x1 r1 => ?_⟩
  exact P1 F1 _ H1 (G1.setO j r1.1 r1.2.1) x1.f
end
end VL

set_option Elab.async false
set_option linter.all false
set_option maxRecDepth 100000
set_option maxHeartbeats 4000000
namespace VL
open PySem PySem.Spec PyProof.Rows L2
/-! ### told = f(e); if TEST: .. return ..; for a, b in told: b.append(c): what is told is new, it is forgotten behind the test -/
def tellOk1 (n : Nat) : Dt → Bool
  | .tup [_, .lst zs] => zs.all isFlat && decide (zs.length + n < 16777216)
  | _ => false
def tellOk : Dt → Bool
  | .lst l => l.all (tellOk1 l.length)
  | _ => false
def dTell (i : Nat) (h : List Dt → R Dt) (fs : List Dt → R (List Dt)) (p : List Dt → R Bool) (sb : List Dt → R Fl) : List Dt → R Fl := fun ρ => rbind (fs ρ) fun ds => if ds.all isFlat = true then rbind (h ds) fun d => rbind (p (ρ.set i d)) fun k => if k = true then rbind (sb (ρ.set i d)) fun fl => (match fl with
    | .rt r => rok (.rt r)
    | .nx _ => none : R Fl) else if tellOk d = true then rok (.nx (ρ.set i d)) else none else none
section
variable {K : PySem.W.Frag} {g : Cfg} {B : Base} {O : List SK} {F F' H H' : Hp} {ρ : List Dt} {σ : St} {d : Dt} {v : V}
theorem Good.setU (G : Good K g B O F ρ σ H) {i : Nat} {x : Option V} (hO : O[i]? = some .un) : Good K g B O F ρ (σ.set i x) H where
  lenO := by simpa using G.lenO
  lenR := by simpa using G.lenR
  b0 := G.b0
  bF := G.bF
  sub := G.sub
  new := G.new
  slot := fun j k d' o h1 h2 h3 => by
    rcases getE_set h3 with ⟨a1, a2⟩ | ⟨a1, a2⟩
    · subst a1
      rw [hO] at h1; cases h1
      trivial
    · exact G.slot j k d' o h1 h2 a2
  apart := fun j k p h1 h2 h3 h4 => by
    rcases getE_set h3 with ⟨a1, _⟩ | ⟨_, a2⟩
    · subst a1; rw [hO] at h1; cases h1
    · rcases getE_set h4 with ⟨b1, _⟩ | ⟨_, b2⟩
      · subst b1; rw [hO] at h2; cases h2
      · exact G.apart j k p h1 h2 a2 b2
theorem Good.setUn (G : Good K g B O F ρ σ H) (i : Nat) {x : Option V} {d : Dt} : Good K g B (O.set i .un) F (ρ.set i d) (σ.set i x) H where
  lenO := by simpa using G.lenO
  lenR := by simpa using G.lenR
  b0 := G.b0
  bF := G.bF
  sub := G.sub
  new := G.new
  slot := fun j k d' o h1 h2 h3 => by
    rcases getE_set h1 with ⟨a1, a2⟩ | ⟨a1, a2⟩
    · subst a2; trivial
    · rw [List.getElem?_set_ne (Ne.symm a1)] at h2 h3
      exact G.slot j k d' o a2 h2 h3
  apart := fun j k p h1 h2 h3 h4 => by
    rcases getE_set h1 with ⟨_, a2⟩ | ⟨a1, a2⟩
    · cases a2
    · rcases getE_set h2 with ⟨_, b2⟩ | ⟨b1, b2⟩
      · cases b2
      · rw [List.getElem?_set_ne (Ne.symm a1)] at h3
        rw [List.getElem?_set_ne (Ne.symm b1)] at h4
        exact G.apart j k p a2 b2 h3 h4
theorem sqT_upd {t q : Addr} {xs ws ws' : List V} (hq : H q = some (.lst ws)) (h : SqT K H t xs) : SqT K (upd H q (.lst ws')) t xs := by
  rcases h with (h | ⟨o, h⟩) | h
  · exact .inl (.inl (by rw [upd_ne (fun z => by rw [z, hq] at h; cases h)]; exact h))
  · exact .inl (.inr ⟨o, by rw [upd_ne (fun z => by rw [z, hq] at h; cases h)]; exact h⟩)
  · exact .inr h
theorem flat_noref : ∀ {d : Dt} {a : Addr}, isFlat d = true → Rep K g F d (.ref a) → False
  | .non, a, _, h => by rw [Rep] at h; cases h
  | .bl _, a, _, h => by rw [Rep] at h; cases h
  | .int _, a, _, h => by rw [Rep] at h; cases h
  | .str _, a, _, h => by rw [Rep] at h; cases h
  | .lst _, a, f, _ => by cases f
  | .tup _, a, f, _ => by cases f
  | .obj _ _, a, f, _ => by cases f
  | .scr _, a, f, _ => by cases f
  | .exc _, a, f, _ => by cases f
  | .dct _ _, a, f, _ => by cases f
/-- an inner list of what is told -/
def TellAt (K : PySem.W.Frag) (H0 H : Hp) (p : Addr) (n : Nat) (v : V) : Prop := ∃ t kv q ws, v = .ref t ∧ SqT K H t [kv, .ref q] ∧ H q = some (.lst ws) ∧ ws.length + n < 16777216 ∧ H0 q = none ∧ q ≠ p
theorem TellAt.mono {H0 H H' : Hp} {p : Addr} {n : Nat} {v : V} (s : Same H H') (h : TellAt K H0 H p n v) : TellAt K H0 H' p n v := by
  obtain ⟨t, kv, q, ws, h1, h2, h3, h4, h5, h6⟩ := h
  exact ⟨t, kv, q, ws, h1, sqT_mono s h2, s _ _ h3, h4, h5, h6⟩
theorem TellAt.app {H0 H : Hp} {p q : Addr} {n : Nat} {v y : V} {ws : List V} (hq : H q = some (.lst ws)) (hn : ws.length + (n + 1) < 16777216) (h : TellAt K H0 H p (n + 1) v) : TellAt K H0 (upd H q (.lst (ws ++ [y]))) p n v := by
  obtain ⟨t, kv, q2, ws2, h1, h2, h3, h4, h5, h6⟩ := h
  by_cases e : q2 = q
  · subst e
    exact ⟨t, kv, q2, ws ++ [y], h1, sqT_upd hq h2, upd_same, by rw [List.length_append, List.length_singleton]; omega, h5, h6⟩
  · exact ⟨t, kv, q2, ws2, h1, sqT_upd hq h2, by rw [upd_ne e]; exact h3, by omega, h5, h6⟩
theorem tell_at {H0 : Hp} {l : List Dt} {vs : List V} {p : Addr} (hnew : ∀ a o, F a = some o → H0 a = none) (sub : Same F H) (hp : F p = some (.lst vs)) (r : Reps K g F l vs) (ok : tellOk (.lst l) = true) : ∀ v ∈ vs, TellAt K H0 H p vs.length v := fun v hv => by
  obtain ⟨j, hj⟩ := List.getElem?_of_mem hv
  obtain ⟨d, hd, rd⟩ := reps_get' r hj
  have ok1 := List.all_eq_true.mp ok d (List.mem_of_getElem? hd)
  unfold tellOk1 at ok1
  split at ok1
  · rename_i a zs
    rw [Bool.and_eq_true] at ok1
    obtain ⟨f1, f2⟩ := ok1
    have f2 := of_decide_eq_true f2
    rw [Rep] at rd
    obtain ⟨t, us, rfl, h2, h3⟩ := rd
    rw [Reps] at h3
    obtain ⟨v1, r1, rfl, q1, q2⟩ := h3
    rw [Reps] at q2
    obtain ⟨v2, r2, rfl, q3, q4⟩ := q2
    rw [Reps] at q4
    subst q4
    rw [Rep] at q3
    obtain ⟨q, ws, rfl, h4, h5⟩ := q3
    refine ⟨t, v1, q, ws, rfl, sqT_mono sub h2, sub _ _ h4, by rw [← reps_len h5, ← reps_len r]; exact f2, hnew _ _ h4, fun z => ?_⟩
    subst z
    rw [hp] at h4
    cases h4
    obtain ⟨d2, hd2, rd2⟩ := reps_get' h5 hj
    have f3 := List.all_eq_true.mp f1 d2 (List.mem_of_getElem? hd2)
    exact flat_noref f3 rd2
  · cases ok1
end
section
variable {X : Cx} {g : Cfg} {W : WX} {B : Base} {O O1 O2 O' : List SK} {pos p0 apos : Pos} {kd kd1 : Kd} {rk : RK} {a b c e te : Expr} {es : List Expr} {f f1 f2 f3 : List Dt → R Dt} {fs : List Dt → R (List Dt)} {p : List Dt → R Bool} {s s1 s2 sb : List Dt → R Fl} {st : Stmt} {rest body : List Stmt}
theorem vss_tell {k n : Nat} {fa : Addr} {fd : FuncData} {ps : List Str} {h : List Dt → R Dt} {x y xa xb : Str} {py cpos ipos fpos tpos pa pb pn px apos bpos epos cp5 : Pos} {c5 : Int} {j5 kt : Nat} (i ia ib : Nat) (hp : PassesOwn (model X.prog X.w) X.A X.env X.xe) (hc : X.calm = true) (tk : Takes X W)
    (Fo : FnOk X.prog X.w X.K X.mg X.base (L2.CX X.prog X.w) k fa fd ps (spV X.K g n .fz h)) (hr : Room k X.A) (hm : X.mg x = some (.ref fa)) (hk : PySem.W.keepIn X.K (.ref fa) = true) (hb : Binds X.K fd ps []) (ha : VA X g W B O .fz (e :: es) fs)
    (hn : ∀ (ρ : List Dt) (ds : List Dt), fs ρ = some (.ok ds) → ds.length = n) (hND : X.N.Nodup) (ht : VT X g W B (O.set i .fz) te p) (hbody : VSs X g W B rk (O.set i .fz) O2 body sb)
    (hi : X.N[i]? = some y := by rfl) (hia : X.N[ia]? = some xa := by rfl) (hib : X.N[ib]? = some xb := by rfl) (hOa : (((O.set i .un).set ia .un).set ib .un)[ia]? = some .un := by rfl) (hOb : (((O.set i .un).set ia .un).set ib .un)[ib]? = some .un := by rfl) (hlen : X.N.length = O.length := by rfl) (hne : i ≠ ia ∧ i ≠ ib := by decide)
    (hy : Loc X.env.scope y := by first | exact Or.inl rfl | exact Or.inr rfl) (hya : Loc X.env.scope xa := by first | exact Or.inl rfl | exact Or.inr rfl) (hyb : Loc X.env.scope xb := by first | exact Or.inl rfl | exact Or.inr rfl)
    (hv : Vis X.env.scope y := by first | exact Or.inl rfl | exact Or.inr (Or.inl rfl) | exact Or.inr (Or.inr rfl)) (hvb : Vis X.env.scope xb := by first | exact Or.inl rfl | exact Or.inr (Or.inl rfl) | exact Or.inr (Or.inr rfl))
    (hg : Gl X x := by rfl) (hdb : (x == ("__debug__" : Str)) = false := by decide) (hd1 : (y == ("__debug__" : Str)) = false := by decide) (hd2 : (xb == ("__debug__" : Str)) = false := by decide) (hcd1 : (y == ("__classdict__" : Str)) = false := by decide) (hcd2 : (xb == ("__classdict__" : Str)) = false := by decide)
    (he : starEach (e :: es) X.env = (false, eval e X.env) :: starEach es X.env := by rfl) (hpl : (backTo cpos (starEach es X.env)).any (·.1) = false := by rfl)
    (hs : swapsWith (.Call (.Name x p0) (e :: es) [] cpos) (some (.Name y py)) pos.line X.env = pure false := by rfl)
    (hf : X.fn y = true ∨ X.env.scope.names.lookup y = some .local := by first | exact .inl rfl | exact .inr rfl) (hfa : X.fn xa = true ∨ X.env.scope.names.lookup xa = some .local := by first | exact .inl rfl | exact .inr rfl) (hfb : X.fn xb = true ∨ X.env.scope.names.lookup xb = some .local := by first | exact .inl rfl | exact .inr rfl)
    (hbase : attributeBase (.Name xb px) "append" X.env (eval (.Name xb px) X.env) = eval (.Name xb px) X.env := by rfl)
    (hfew : ((backTo bpos (starEach [.Constant (.int c5) j5 cp5] X.env)).all (fun x => !x.1) && (backToKw bpos (keywordEach [] X.env)).all (fun x => x.1.isSome)
      && decide ([Expr.Constant (.int c5) j5 cp5].length + ([] : List Keyword).length + (if ([] : List Keyword).isEmpty then 0 else 1) < 30)) = true := by rfl)
    (hline : (apos.endLine == bpos.line) = true := by rfl) (hs1 : starEach [.Constant (.int c5) j5 cp5] X.env = (false, eval (.Constant (.int c5) j5 cp5) X.env) :: starEach [] X.env := by rfl) (hplain : (backTo bpos (starEach [] X.env)).any (·.1) = false := by rfl)
    (hsw : swapsWith (.Call (.Attribute (.Name xb px) "append" apos) [.Constant (.int c5) j5 cp5] [] bpos) none epos.line X.env = pure false := by rfl)
    (hgo : ∀ x, foldedSetIterable (.Name y pn) X.env x = pure x := by intro _; rfl) :
    VSs X g W B rk O (((O.set i .un).set ia .un).set ib .un) [.Assign [.Name y py] (.Call (.Name x p0) (e :: es) [] cpos) pos, .If te body [] ipos,
      .For (.Tuple [.Name xa pa, .Name xb pb] kt tpos) (.Name y pn) [.Expr (.Call (.Attribute (.Name xb px) "append" apos) [.Constant (.int c5) j5 cp5] [] bpos) epos] [] fpos] (dTell i h fs p sb) := by
  have T1 := ps_set (pos := pos) (pos' := py) hND hi hy (pe_callS (p := p0) (pos := cpos) Fo hr hg hm hk hb (fun σ => passAt tk σ) ha hdb he hpl) hs hf
  have T2 := ps_if (pos := ipos) ht hbody pss_nil
  have T3 := ps_for (pos := fpos) hp hc (pi_list (tg := .Tuple [.Name xa pa, .Name xb pb] kt tpos) (pe_var (pos := pn) hi hv hd1 hcd1)) (pg_tup (pos := tpos) (k := kt) (n := 2) hc (pgs_cons (pg_name (pos := pa) hND hia hya hfa) (pgs_cons (pg_name (pos := pb) hND hib hyb hfb) pgs_nil rfl) rfl) rfl rfl)
    (pss_one (ps_expr (pos := epos) (pe_bm PySem.F.plainAttrs_list PySem.F.slot_list_append PySem.F.type_list_append mt_append (pe_var (pos := px) hib hvb hd2 hcd2) (va_consF (g := g) (W := W) (B := B) (O := ((O.set i .un).set ia .un).set ib .un) (v_int (i := c5) (j := j5) (pos := cp5)) va_nil hs1) hbase hfew hline hs1 hplain) hsw)) hgo
  refine pss_imp (pss_cons T1 (pss_cons T2 (pss_one T3))) fun D σ H ⟨F, ρ, G, P⟩ => ?_
  have P0 : PostX (ErW g W B) (rbind (fs ρ) fun ds => if ds.all isFlat = true then rbind (h ds) fun d => rbind (p (ρ.set i d)) fun k => if k = true then rbind (sb (ρ.set i d)) fun fl => (match fl with
    | .rt r => rok (.rt r)
    | .nx _ => none : R Fl) else if tellOk d = true then rok (.nx (ρ.set i d)) else none else none) _ := P
  refine ⟨F, ρ, G, PostX.mono (PostX.bind P0) (fun _ z => erW z) fun ds e P1 vs F1 H1 G1 x1 r1 => ?_⟩
  have r1 : Reps X.K g F1 ds vs := r1
  by_cases c1 : ds.all isFlat = true
  · rw [if_pos c1] at P1
    have r0 : Reps X.K g (fun _ => none) ds vs := reps_flat (fun d hd => List.all_eq_true.mp c1 d hd) r1
    have s0 : Same (fun _ => none) H1 := fun _ _ z => by cases z
    refine ⟨fun _ => none, ds, s0, hn ρ ds e, r0, PostX.mono (PostX.bind P1) (fun c z H' s => z σ H' (G1.b0.trans s)) ?_⟩
    intro d _ P2 v F' H' rg ro
    show tSeq (tIfS (tT X.K g W B (O.set i .fz) p) (tS X.K g W B rk (O.set i .fz) O2 sb) tNext) _ D (σ.set i (some v)) H'
    have ro : Rep X.K g F' d v := ro
    have hnew : ∀ a o, F' a = some o → H1 a = none := fun a o e => by
      rcases rg.1.n a o e with z | z
      · cases z
      · exact z
    have s1' : Same H1 H' := rg.1.h
    let F2 : Hp := fun a => match F1 a with
      | some o => some o
      | none => F' a
    have s12 : Same F1 F2 := fun a o e => by show (match F1 a with | some o => some o | none => F' a) = _; rw [e]
    have s22 : Same F' F2 := fun a o e => by show (match F1 a with | some o => some o | none => F' a) = _; rw [G1.fnone (hnew a o e)]; exact e
    have sub2 : Same F2 H' := fun a o e => by
      have e : (match F1 a with | some o => some o | none => F' a) = some o := e
      cases q : F1 a with
      | some u => rw [q] at e; cases e; exact s1' _ _ (G1.sub _ _ q)
      | none => rw [q] at e; exact rg.2 _ _ e
    have new2 : ∀ a o, F2 a = some o → F1 a = some o ∨ H1 a = none := fun a o e => by
      have e : (match F1 a with | some o => some o | none => F' a) = some o := e
      cases q : F1 a with
      | some u => rw [q] at e; exact .inl e
      | none => rw [q] at e; exact .inr (hnew a o e)
    have G2 : Good X.K g B (O.set i .fz) F2 (ρ.set i d) (σ.set i (some v)) H' := (G1.grow s12 s1' sub2 new2).set i (rep_mono s22 _ _ ro)
    refine tT_then (er := ErW g W B) (he := fun _ z => erW z) G2 P2 fun k F3 H3 e3 G3 x3 P3 => ?_
    cases k with
    | true =>
      have P3 : PostX (ErW g W B) (rbind (sb (ρ.set i d)) fun fl => (match fl with
        | .rt r => rok (.rt r)
        | .nx _ => none : R Fl)) _ := P3
      refine ⟨F3, _, G3, PostX.mono (PostX.bind P3) (fun _ z => z) fun fl _ q => ?_⟩
      cases fl with
      | nx _ => exact q.elim
      | rt r => exact q
    | false =>
      have P3 : PostX (ErW g W B) (if tellOk d = true then (rok (.nx (ρ.set i d)) : R Fl) else none) _ := P3
      by_cases c2 : tellOk d = true
      · rw [if_pos c2] at P3
        have P3 : ∀ F' σ' H', Good X.K g B (((O.set i .un).set ia .un).set ib .un) F' (ρ.set i d) σ' H' → Same F F' → D.nx σ' H' := P3
        have s13 : Same H1 H3 := s1'.trans x3.h
        cases d with
        | lst l =>
          rw [Rep] at ro
          obtain ⟨p, vs, rfl, hp, rl⟩ := ro
          have sub3 : Same F' H3 := s22.trans (x3.f.trans G3.sub)
          have GU : Good X.K g B (((O.set i .un).set ia .un).set ib .un) F1 (ρ.set i (.lst l)) (σ.set i (some (.ref p))) H3 := (((G1.grow (fun _ _ z => z) s13 (G1.sub.trans s13) fun _ _ z => .inl z).setUn i).unset ia).unset ib
          have hall := tell_at hnew sub3 hp rl c2
          have hil : i < σ.length := by rw [← G1.lenO, ← hlen]; exact (List.getElem?_eq_some_iff.mp hi).1
          have hbl : ib < σ.length := by rw [← G1.lenO, ← hlen]; exact (List.getElem?_eq_some_iff.mp hib).1
          refine ⟨.ref p, by rw [List.getElem?_set_self hil], p, rfl, ⟨vs, SqL.of (sub3 _ _ hp)⟩, ?_⟩
          have hapart : ∀ q : Addr, H1 q = none → ∀ j : Nat, (((O.set i .un).set ia .un).set ib .un)[j]? = some SK.own → (σ.set i (some (.ref p)))[j]? ≠ some (some (.ref q)) := fun q hq j hj hs => by
            rcases getE_set hj with ⟨_, z⟩ | ⟨_, hj⟩
            · cases z
            rcases getE_set hj with ⟨_, z⟩ | ⟨_, hj⟩
            · cases z
            rcases getE_set hj with ⟨_, z⟩ | ⟨hji, hj⟩
            · cases z
            rw [List.getElem?_set_ne (Ne.symm hji)] at hs
            exact G1.apartNew hq j hj hs
          refine ⟨fun n m σ2 H2 => m = vs.length - n ∧ n ≤ vs.length ∧ Good X.K g B (((O.set i .un).set ia .un).set ib .un) F1 (ρ.set i (.lst l)) σ2 H2 ∧ H2 p = some (.lst vs) ∧ (∀ v ∈ vs, TellAt X.K H1 H2 p (vs.length - n) v) ∧
            ∀ q : Addr, H1 q = none → ∀ j : Nat, (((O.set i .un).set ia .un).set ib .un)[j]? = some SK.own → σ2[j]? ≠ some (some (.ref q)), ⟨_, rfl, Nat.zero_le _, GU, sub3 _ _ hp, hall, hapart⟩, ?_⟩
          rintro n m σ2 H2 ⟨rfl, hnl, G4, h2p, hall, hap⟩
          by_cases hlt : n < vs.length
          · refine .inr ⟨⟨vs, vs[n], SqL.of h2p, List.getElem?_eq_getElem hlt⟩, fun σ' H' => n + 1 ≤ vs.length ∧ Good X.K g B (((O.set i .un).set ia .un).set ib .un) F1 (ρ.set i (.lst l)) σ' H' ∧ H' p = some (.lst vs) ∧ (∀ v ∈ vs, TellAt X.K H1 H' p (vs.length - (n + 1)) v) ∧
              ∀ q : Addr, H1 q = none → ∀ j : Nat, (((O.set i .un).set ia .un).set ib .un)[j]? = some SK.own → σ'[j]? ≠ some (some (.ref q)), fun σ' H' z => ⟨_, by omega, rfl, z⟩, ?_⟩
            rintro x H' ⟨rfl, hx⟩
            have hx := hx vs (SqL.of h2p)
            rw [List.getElem?_eq_getElem hlt] at hx
            cases hx
            obtain ⟨t, kv, q, ws, e1, e2, e3, e4, e5, e6⟩ := hall vs[n] (List.getElem_mem hlt)
            refine ⟨t, _, e1, e2, rfl, kv, _, rfl, .ref q, _, rfl, rfl, ?_⟩
            have hl2 : ib < (σ2.set ia (some kv)).length := by rw [List.length_set, ← G4.lenO]; simpa [G1.lenO] using hbl
            have G5 := (G4.setU (x := some kv) hOa).setU (x := some (.ref q)) hOb
            have hap5 : ∀ q' : Addr, H1 q' = none → ∀ j : Nat, (((O.set i .un).set ia .un).set ib .un)[j]? = some SK.own → ((σ2.set ia (some kv)).set ib (some (.ref q)))[j]? ≠ some (some (.ref q')) := fun q' hq' j hj hs => by
              have n1 : ib ≠ j := fun z => by subst z; rw [hOb] at hj; cases hj
              have n2 : ia ≠ j := fun z => by subst z; rw [hOa] at hj; cases hj
              rw [List.getElem?_set_ne n1, List.getElem?_set_ne n2] at hs
              exact hap q' hq' j hj hs
            refine ⟨.ref q, by rw [List.getElem?_set_self hl2], .inl ⟨rfl, ws, SqL.of e3⟩, F1, _, G5, ?_⟩
            show PostX _ (rok [Dt.int c5]) _
            intro us F6 H6 G6 x6 r6
            have r6 : Reps X.K g F6 [.int c5] us := r6
            rw [Reps] at r6
            obtain ⟨y, r', rfl, _, r7⟩ := r6
            rw [Reps] at r7
            subst r7
            have h6q : H6 q = some (.lst ws) := x6.h _ _ e3
            have hdec : vs.length - n = (vs.length - (n + 1)) + 1 := by omega
            have hws : ws.length + ((vs.length - (n + 1)) + 1) < 16777216 := by rw [← hdec]; exact e4
            have G7 : Good X.K g B (((O.set i .un).set ia .un).set ib .un) F1 (ρ.set i (.lst l)) ((σ2.set ia (some kv)).set ib (some (.ref q))) H6 := G5.grow (fun _ _ z => z) x6.h (G5.sub.trans x6.h) fun _ _ z => .inl z
            refine ⟨q, ws, y, rfl, rfl, h6q, by rw [sizeLine_eq]; omega, hlt, G7.writeN h6q (G1.fnone e5) (G1.b0.free e5) (fun j hj => hap5 q e5 j hj), by rw [upd_ne (Ne.symm e6)]; exact x6.h _ _ h2p, fun v hv => ?_, hap5⟩
            exact TellAt.app h6q hws (by rw [← hdec]; exact (hall v hv).mono x6.h)
          · exact .inl ⟨⟨vs, SqL.of h2p, by omega⟩, P3 F1 σ2 H2 G4 x1.f⟩
        | _ => cases c2
      · rw [if_neg c2] at P3; exact P3.elim
  · rw [if_neg c1] at P1; exact P1.elim
end
end VL

set_option Elab.async false
set_option linter.all false
set_option maxRecDepth 100000
namespace VL
open PySem PySem.Spec PyProof.Rows L2
/-! ### how the words compute -/
@[simp] theorem ev_var0 (a : Dt) (l : List Dt) : dVar 0 (a :: l) = rok a := rfl
@[simp] theorem ev_vars (n : Nat) (a : Dt) (l : List Dt) : dVar (n + 1) (a :: l) = dVar n l := rfl
@[simp] theorem ev_C (d : Dt) (ρ : List Dt) : dC d ρ = rok d := rfl
@[simp] theorem ev_d1 (h : Dt → R Dt) (f : List Dt → R Dt) (ρ : List Dt) : d1 h f ρ = rbind (f ρ) h := rfl
@[simp] theorem ev_d2 (h : Dt → Dt → R Dt) (f1 f2 : List Dt → R Dt) (ρ : List Dt) : d2 h f1 f2 ρ = rbind (f1 ρ) fun a => rbind (f2 ρ) fun b => h a b := rfl
@[simp] theorem ev_d3 (h h' : Dt → Dt → R Dt) (f1 f2 f3 : List Dt → R Dt) (ρ : List Dt) : d3 h h' f1 f2 f3 ρ = rbind (f1 ρ) fun a => rbind (f2 ρ) fun b => rbind (h a b) fun t => rbind (dBool t) fun k => if k then rbind (f3 ρ) fun c => h' b c else rok (.bl false) := rfl
@[simp] theorem ev_T (f : List Dt → R Dt) (ρ : List Dt) : dT f ρ = rbind (f ρ) dBool := rfl
@[simp] theorem ev_Tr (f : List Dt → R Dt) (ρ : List Dt) : dTr f ρ = rbind (f ρ) tru := rfl
@[simp] theorem ev_pAnd (p1 p2 : List Dt → R Bool) (ρ : List Dt) : pAnd p1 p2 ρ = rbind (p1 ρ) fun k => if k then p2 ρ else rok false := rfl
@[simp] theorem ev_pOr (p1 p2 : List Dt → R Bool) (ρ : List Dt) : pOr p1 p2 ρ = rbind (p1 ρ) fun k => if k then rok true else p2 ρ := rfl
@[simp] theorem ev_pNot (p1 : List Dt → R Bool) (ρ : List Dt) : pNot p1 ρ = rbind (p1 ρ) fun k => rok (!k) := rfl
@[simp] theorem ev_yes (ρ : List Dt) : pYes ρ = rok true := rfl
@[simp] theorem ev_AndV (f1 f2 : List Dt → R Dt) (ρ : List Dt) : dAndV f1 f2 ρ = rbind (f1 ρ) fun d => rbind (dBool d) fun k => if k then f2 ρ else rok (.bl false) := rfl
@[simp] theorem ev_OrV (f1 f2 : List Dt → R Dt) (ρ : List Dt) : dOrV f1 f2 ρ = rbind (f1 ρ) fun d => rbind (dBool d) fun k => if k then rok (.bl true) else f2 ρ := rfl
@[simp] theorem ev_OrT (f1 f2 : List Dt → R Dt) (ρ : List Dt) : dOrT f1 f2 ρ = rbind (f1 ρ) fun d => rbind (tru d) fun k => if k then rok d else f2 ρ := rfl
@[simp] theorem ev_If (p : List Dt → R Bool) (f1 f2 : List Dt → R Dt) (ρ : List Dt) : dIf p f1 f2 ρ = rbind (p ρ) fun k => if k then f1 ρ else f2 ρ := rfl
@[simp] theorem ev_aNil (ρ : List Dt) : aNil ρ = rok [] := rfl
@[simp] theorem ev_aCons (f : List Dt → R Dt) (fs : List Dt → R (List Dt)) (ρ : List Dt) : aCons f fs ρ = rbind (f ρ) fun d => rbind (fs ρ) fun ds => rok (d :: ds) := rfl
@[simp] theorem ev_Call (h : List Dt → R Dt) (fs : List Dt → R (List Dt)) (ρ : List Dt) : dCall h fs ρ = rbind (fs ρ) h := rfl
@[simp] theorem ev_one (h : Dt → R Dt) (d : Dt) : one h [d] = h d := rfl
@[simp] theorem ev_two (h : Dt → Dt → R Dt) (d d' : Dt) : two h [d, d'] = h d d' := rfl
@[simp] theorem ev_Lst (fs : List Dt → R (List Dt)) (ρ : List Dt) : dLst fs ρ = rbind (fs ρ) fun ds => if ds.length ≤ 1000 then rok (.lst ds) else none := rfl
@[simp] theorem ev_Tup (fs : List Dt → R (List Dt)) (ρ : List Dt) : dTup fs ρ = rbind (fs ρ) fun ds => if ds.length ≤ 1000 then rok (.tup ds) else none := rfl
@[simp] theorem ev_oNone (ρ : List Dt) : oNone ρ = rok none := rfl
@[simp] theorem ev_oSome (f : List Dt → R Dt) (ρ : List Dt) : oSome f ρ = rbind (f ρ) oInt := rfl
@[simp] theorem ev_oInt (i : Int) : oInt (.int i) = rok (some i) := rfl
@[simp] theorem ev_Sl (h : Dt → Option Int → Option Int → R Dt) (f : List Dt → R Dt) (l u : List Dt → R (Option Int)) (ρ : List Dt) : dSl h f l u ρ = rbind (f ρ) fun d => rbind (l ρ) fun lo => rbind (u ρ) fun hi => h d lo hi := rfl
@[simp] theorem ev_sliceL (l : List Dt) (lo hi : Option Int) : sliceL (.lst l) lo hi = rok (.lst (cutD l lo hi)) := rfl
@[simp] theorem ev_M (k : Str → Dt → R Dt) (f1 f2 : List Dt → R Dt) (ρ : List Dt) : dM k f1 f2 ρ = rbind (f1 ρ) fun d => rbind (isStr d) fun z => rbind (f2 ρ) fun b => k z b := rfl
@[simp] theorem ev_ML (k : List Dt → Dt → R Dt) (f1 f2 : List Dt → R Dt) (ρ : List Dt) : dML k f1 f2 ρ = rbind (f1 ρ) fun d => rbind (isLst d) fun z => rbind (f2 ρ) fun b => k z b := rfl
@[simp] theorem ev_isLst (l : List Dt) : isLst (.lst l) = rok l := rfl
@[simp] theorem ev_isStr (z : Str) : isStr (.str z) = rok z := rfl
@[simp] theorem ev_dBool (b : Bool) : dBool (.bl b) = rok b := rfl
@[simp] theorem ev_Next (ρ : List Dt) : dNext ρ = rok (.nx ρ) := rfl
@[simp] theorem ev_Seq (f1 f2 : List Dt → R Fl) (ρ : List Dt) : dSeq f1 f2 ρ = rbind (f1 ρ) fun fl => match fl with | .nx ρ' => f2 ρ' | .rt d => rok (.rt d) := rfl
@[simp] theorem ev_Drop (f : List Dt → R Dt) (ρ : List Dt) : dDrop f ρ = rbind (f ρ) fun _ => rok (.nx ρ) := rfl
@[simp] theorem ev_Set (i : Nat) (f : List Dt → R Dt) (ρ : List Dt) : dSet i f ρ = rbind (f ρ) fun d => rok (.nx (ρ.set i d)) := rfl
theorem ev_Ret (rk : RK) (f : List Dt → R Dt) (ρ : List Dt) : dRet rk f ρ = rbind (f ρ) fun d => if retC rk d = true then rok (.rt d) else none := rfl
@[simp] theorem ev_RetF (f : List Dt → R Dt) (ρ : List Dt) : dRet .flat f ρ = rbind (f ρ) fun d => if isFlat d = true then rok (.rt d) else none := rfl
@[simp] theorem ev_RetZ (f : List Dt → R Dt) (ρ : List Dt) : dRet .fz f ρ = rbind (f ρ) fun d => rok (.rt d) := rfl
theorem ev_RetL (rk : RK) (f : List Dt → R Dt) (ρ : List Dt) (l : List Dt) (e : f ρ = rok (.lst l)) (c : retC rk (.lst l) = true) : dRet rk f ρ = rok (.rt (.lst l)) := by
  unfold dRet; rw [e, rbind_ok, if_pos c]
@[simp] theorem isFlat_int (i : Int) : isFlat (.int i) = true := rfl
@[simp] theorem isFlat_non : isFlat .non = true := rfl
@[simp] theorem isFlat_bl (i : Bool) : isFlat (.bl i) = true := rfl
@[simp] theorem isFlat_str (i : Str) : isFlat (.str i) = true := rfl
@[simp] theorem ev_IfS (p : List Dt → R Bool) (s1 s2 : List Dt → R Fl) (ρ : List Dt) : dIfS p s1 s2 ρ = rbind (p ρ) fun k => if k then s1 ρ else s2 ρ := rfl
@[simp] theorem ev_For (it : List Dt → R (List Dt)) (set : Dt → List Dt → Option (List Dt)) (s : List Dt → R Fl) (ρ : List Dt) : dFor it set s ρ = rbind (it ρ) fun ds => dForL set s ds ρ := rfl
@[simp] theorem ev_setN (i : Nat) (d : Dt) (ρ : List Dt) : setN i d ρ = some (ρ.set i d) := rfl
@[simp] theorem ev_iLst (f : List Dt → R Dt) (ρ : List Dt) (l : List Dt) (h : f ρ = rok (.lst l)) : iLst f ρ = rok l := by unfold iLst iOf; simp only [h]; rfl
@[simp] theorem ev_iTup (f : List Dt → R Dt) (ρ : List Dt) (l : List Dt) (h : f ρ = rok (.tup l)) : iTup f ρ = rok l := by unfold iTup iOf; simp only [h]; rfl
@[simp] theorem ev_iRng (fs h : List Dt → R (List Dt)) (ρ : List Dt) : iRng fs h ρ = rbind (fs ρ) h := rfl
@[simp] theorem ev_onLst (i : Nat) (k : List Dt → R (List Dt)) (ρ : List Dt) (l : List Dt) (h : ρ[i]? = some (.lst l)) : onLst i k ρ = rbind (k l) fun l' => rok (.nx (ρ.set i (.lst l'))) := by unfold onLst; simp only [h]
@[simp] theorem ev_Append (i : Nat) (f : List Dt → R Dt) (ρ : List Dt) : dAppend i f ρ = rbind (f ρ) fun d => onLst i (kAppend [d]) ρ := by
  unfold dAppend; simp only [ev_aCons, ev_aNil, rbind_assoc, rbind_ok]
@[simp] theorem ev_Raise (c : Nat) (ρ : List Dt) : dRaise c ρ = some (.error c) := rfl
@[simp] theorem ev_sub (i j : Int) : dSub (.int i) (.int j) = rok (.int (i - j)) := rfl
@[simp] theorem ev_add (i j : Int) : dAdd (.int i) (.int j) = rok (.int (i + j)) := rfl
@[simp] theorem ev_neg (i : Int) : dNeg (.int i) = rok (.int (-i)) := rfl
@[simp] theorem ev_not (i : Bool) : dNot (.bl i) = rok (.bl (!i)) := rfl
@[simp] theorem ev_lt (i j : Int) : dLt (.int i) (.int j) = rok (.bl (decide (i < j))) := rfl
@[simp] theorem ev_le (i j : Int) : dLe (.int i) (.int j) = rok (.bl (decide (i ≤ j))) := rfl
@[simp] theorem ev_gt (i j : Int) : dGt (.int i) (.int j) = rok (.bl (decide (j < i))) := rfl
@[simp] theorem ev_ge (i j : Int) : dGe (.int i) (.int j) = rok (.bl (decide (j ≤ i))) := rfl
theorem ev_fdiv (i j : Int) (h : 0 < j ∧ j < 1073741824) : dFdiv (.int i) (.int j) = rok (.int (i / j)) := if_pos h
theorem ev_mod (i j : Int) (h : 0 < j) : dMod (.int i) (.int j) = rok (.int (i % j)) := if_pos h
theorem ev_mulL (i j : Int) (h : -(2 ^ 64) < i ∧ i < 2 ^ 64) : dMul (.int i) (.int j) = rok (.int (i * j)) := if_pos (.inl h)
theorem ev_mulR (i j : Int) (h : -(2 ^ 64) < j ∧ j < 2 ^ 64) : dMul (.int i) (.int j) = rok (.int (i * j)) := if_pos (.inr h)
@[simp] theorem ev_mul (i j : Int) : dMul (.int i) (.int j) = if (-(2 ^ 64) < i ∧ i < 2 ^ 64) ∨ (-(2 ^ 64) < j ∧ j < 2 ^ 64) then rok (.int (i * j)) else none := rfl
@[simp] theorem ev_Mod (i j : Int) : dMod (.int i) (.int j) = if 0 < j then rok (.int (i % j)) else none := rfl
@[simp] theorem ev_Fdiv (i j : Int) : dFdiv (.int i) (.int j) = if 0 < j ∧ j < 1073741824 then rok (.int (i / j)) else none := rfl
@[simp] theorem ev_lenL (l : List Dt) : bLen (.lst l) = rok (.int l.length) := rfl
@[simp] theorem ev_lenS (l : List Int) : bLen (.scr l) = rok (.int l.length) := rfl
@[simp] theorem ev_truL (l : List Dt) : tru (.lst l) = rok (!l.isEmpty) := rfl
@[simp] theorem ev_truS (l : List Int) : tru (.scr l) = rok (!l.isEmpty) := rfl
@[simp] theorem ev_cat (a b : List Dt) : dCat (.lst a) (.lst b) = if a.length + b.length ≤ 16777216 then rok (.lst (a ++ b)) else none := rfl
@[simp] theorem ev_rep (a : List Dt) (k : Int) : dRep (.lst a) (.int k) = if k < 16777216 ∧ a.length * k.toNat ≤ 16777216 ∧ -16777216 < k then rok (.lst (List.replicate k.toNat a).flatten) else none := rfl
@[simp] theorem ev_max2 (i j : Int) : bMax2 (.int i) (.int j) = rok (.int (if j > i then j else i)) := rfl
@[simp] theorem ev_min2 (i j : Int) : bMin2 (.int i) (.int j) = rok (.int (if j < i then j else i)) := rfl
@[simp] theorem ev_ixL (l : List Dt) (i : Int) : dIx (.lst l) (.int i) = (atI l i).map Except.ok := rfl
@[simp] theorem ev_ixT (l : List Dt) (i : Int) : dIx (.tup l) (.int i) = (atI l i).map Except.ok := rfl
@[simp] theorem ev_ixS (l : List Int) (i : Int) : dIx (.scr l) (.int i) = (atI l i).map fun k => Except.ok (.int k) := rfl
@[simp] theorem ev_list (l : List Dt) : bList (.lst l) = rok (.lst l) := rfl
@[simp] theorem ev_isN (a : Dt) : dIsN a .non = rok (.bl (isNon a)) := rfl
@[simp] theorem ev_notN (a : Dt) : dNotN a .non = rok (.bl (!isNon a)) := rfl
@[simp] theorem isNon_non : isNon .non = true := rfl
@[simp] theorem isNon_int (i : Int) : isNon (.int i) = false := rfl
theorem atI_nat {α : Type} (l : List α) (i : Nat) : atI l (i : Int) = l[i]? := by
  unfold atI ixN
  by_cases h : i < l.length
  · simp [h]
  · simp [h] <;> omega

/-! ### none or a number -/
def OI : Option Int → Dt
  | none => .non
  | some i => .int i
@[simp] theorem OI_none : OI none = .non := rfl
@[simp] theorem OI_some (i : Int) : OI (some i) = .int i := rfl
theorem OI_inj {a b : Option Int} (h : OI a = OI b) : a = b := by
  cases a <;> cases b <;> simp_all
@[simp] theorem isNon_OI (a : Option Int) : isNon (OI a) = a.isNone := by cases a <;> rfl
@[simp] theorem okN_OI (n : Nat) (a : Option Int) : okN n (OI a) = true := by cases a <;> cases n <;> rfl
@[simp] theorem isFlat_OI (a : Option Int) : isFlat (OI a) = true := by cases a <;> rfl
theorem flat_OI (L : List (Option Int)) : (L.map OI).all isFlat = true := by
  rw [List.all_map]; simp [Function.comp_def]
theorem okN_LOI (n : Nat) (L : List (Option Int)) : okN (n + 1) (.lst (L.map OI)) = true := by
  simp [okN]
theorem eqv_OI (a b : Option Int) : PyData.eqv (toPy (OI a)) (toPy (OI b)) = decide (a = b) := by
  cases a <;> cases b <;> simp [toPy, PyData.eqv, OI]
  rename_i x y
  by_cases h : x = y <;> simp [h]
@[simp] theorem ev_eqO (a b : Option Int) : dEq (OI a) (OI b) = rok (.bl (decide (a = b))) := by
  unfold dEq; rw [okN_OI, okN_OI, eqv_OI]; rfl
@[simp] theorem ev_neO (a b : Option Int) : dNe (OI a) (OI b) = rok (.bl (!decide (a = b))) := by
  unfold dNe; rw [okN_OI, okN_OI, eqv_OI]; rfl
@[simp] theorem ev_eqI (a b : Int) : dEq (.int a) (.int b) = rok (.bl (decide (a = b))) := by
  have := ev_eqO (some a) (some b)
  simpa using this
@[simp] theorem ev_neI (a b : Int) : dNe (.int a) (.int b) = rok (.bl (!decide (a = b))) := by
  have := ev_neO (some a) (some b)
  simpa using this
theorem mem_OI (L : List (Option Int)) (a : Option Int) : mem (L.map OI) (OI a) = decide (a ∈ L) := by
  unfold mem
  rw [List.any_map]
  induction L with
  | nil => rfl
  | cons x L ih =>
    rw [List.any_cons, ih]
    simp only [Function.comp, eqv_OI, List.mem_cons]
    by_cases h : x = a
    · simp [h]
    · have h' : ¬ a = x := fun e => h e.symm
      simp [h, h']
@[simp] theorem ev_inO (L : List (Option Int)) (a : Option Int) : dIn (OI a) (.lst (L.map OI)) = rok (.bl (decide (a ∈ L))) := by
  unfold dIn isIn
  simp only [okN_OI, okN_LOI, mem_OI]
  rfl
@[simp] theorem ev_notInO (L : List (Option Int)) (a : Option Int) : dNotIn (OI a) (.lst (L.map OI)) = rok (.bl (!decide (a ∈ L))) := by
  unfold dNotIn isIn
  simp only [okN_OI, okN_LOI, mem_OI]
  rfl
theorem eqvAll_OI : ∀ (L M : List (Option Int)), PyData.eqvAll (toPys (L.map OI)) (toPys (M.map OI)) = decide (L = M)
  | [], [] => by simp [toPys, PyData.eqvAll]
  | [], b :: M => by simp [toPys, PyData.eqvAll]
  | a :: L, [] => by simp [toPys, PyData.eqvAll]
  | a :: L, b :: M => by
    simp only [List.map_cons, toPys, PyData.eqvAll, eqv_OI, eqvAll_OI L M, List.cons.injEq]
    by_cases h : a = b <;> by_cases h2 : L = M <;> simp [h, h2]
@[simp] theorem ev_eqL (L M : List (Option Int)) : dEq (.lst (L.map OI)) (.lst (M.map OI)) = rok (.bl (decide (L = M))) := by
  unfold dEq
  rw [okN_LOI, okN_LOI]
  simp only [toPy, PyData.eqv, eqvAll_OI]
  rfl
/-! ### strings -/
theorem ev_eqS (a b : Str) (ha : PyData.strOk a = true) (hb : PyData.strOk b = true) : dEq (.str a) (.str b) = rok (.bl (a == b)) := by
  unfold dEq
  simp only [okN, ha, hb, toPy, PyData.eqv]
  rfl
theorem ev_neS (a b : Str) (ha : PyData.strOk a = true) (hb : PyData.strOk b = true) : dNe (.str a) (.str b) = rok (.bl (!(a == b))) := by
  unfold dNe
  simp only [okN, ha, hb, toPy, PyData.eqv]
  rfl
/-! ### walks -/
theorem compL_map {α : Type} {set : Dt → List Dt → Option (List Dt)} {p : List Dt → R Bool} {f : List Dt → R Dt} {ρ : List Dt} (φ : α → Dt) (b : α → Bool) (y : α → Dt) : ∀ L : List α,
    (∀ a ∈ L, ∃ ρ1, set (φ a) ρ = some ρ1 ∧ p ρ1 = rok (b a) ∧ (b a = true → f ρ1 = rok (y a))) → dCompL set p f ρ (L.map φ) = some ((L.filter b).map y)
  | [], _ => rfl
  | a :: L, h => by
    obtain ⟨ρ1, h1, h2, h3⟩ := h a (List.mem_cons_self)
    have ih := compL_map φ b y L fun a ha => h a (List.mem_cons_of_mem _ ha)
    rw [List.map_cons, dCompL, h1]
    simp only [Option.bind_some, h2, rok, val]
    cases hb : b a with
    | true =>
      simp only [if_true, h3 hb, rok, val, Option.bind_some, ih, Option.map_some, List.filter_cons, hb, List.map_cons]
    | false =>
      simp only [Bool.false_eq_true, if_false, ih, List.filter_cons, hb]
theorem comp_map {α : Type} {it : List Dt → R (List Dt)} {set : Dt → List Dt → Option (List Dt)} {p : List Dt → R Bool} {f : List Dt → R Dt} {ρ : List Dt} (φ : α → Dt) (b : α → Bool) (y : α → Dt) (L : List α)
    (hi : it ρ = rok (L.map φ)) (hl : L.length < 16777216) (h : ∀ a ∈ L, ∃ ρ1, set (φ a) ρ = some ρ1 ∧ p ρ1 = rok (b a) ∧ (b a = true → f ρ1 = rok (y a))) :
    dComp it set p f ρ = rok (.lst ((L.filter b).map y)) := by
  unfold dComp
  rw [hi, rbind_ok, List.length_map, if_pos hl, compL_map φ b y L h]
  rfl
/-- a walk with an invariant over what has been walked -/
theorem forL_inv {α : Type} {set : Dt → List Dt → Option (List Dt)} {s : List Dt → R Fl} (φ : α → Dt) (I : List α → List Dt → Prop) : ∀ (L : List α) (done : List α) (ρ : List Dt), I done ρ →
    (∀ pre a post ρ, done ++ L = pre ++ a :: post → I pre ρ → ∃ ρ1 ρ2, set (φ a) ρ = some ρ1 ∧ s ρ1 = rok (.nx ρ2) ∧ I (pre ++ [a]) ρ2) → ∃ ρ', dForL set s (L.map φ) ρ = rok (.nx ρ') ∧ I (done ++ L) ρ'
  | [], done, ρ, h, _ => ⟨ρ, rfl, by simpa using h⟩
  | a :: L, done, ρ, h, k => by
    obtain ⟨ρ1, ρ2, h1, h2, h3⟩ := k done a L ρ rfl h
    obtain ⟨ρ', h4, h5⟩ := forL_inv φ I L (done ++ [a]) ρ2 h3 fun pre b post ρ e => k pre b post ρ (by simpa using e)
    refine ⟨ρ', ?_, by simpa using h5⟩
    rw [List.map_cons, dForL, h1]
    simp only [Option.map_some, rbind_ok', h2, rbind_ok, h4]
theorem atI_last {α : Type} (l : List α) (a : α) : atI (l ++ [a]) (-1) = some a := by
  unfold atI ixN
  rw [if_neg (by decide), if_pos (by simp; omega), Option.bind_some]
  have : ((-1 : Int) + ((l ++ [a]).length : Nat)).toNat = l.length := by simp; omega
  rw [List.getElem?_append_right (by omega), this, Nat.sub_self]
  rfl
theorem atI_OI (L : List (Option Int)) (i : Int) : atI (L.map OI) i = (atI L i).map OI := atI_map OI L i
theorem atI_mem {α : Type} {l : List α} {i : Int} {a : α} (h : atI l i = some a) : a ∈ l := by
  unfold atI at h
  cases q : ixN l.length i with
  | none => rw [q] at h; cases h
  | some j => rw [q] at h; exact List.mem_of_getElem? h
theorem atI_some {α : Type} (l : List α) (i : Int) (h0 : 0 ≤ i) (h1 : i < l.length) : ∃ a, atI l i = some a ∧ a ∈ l := by
  obtain ⟨j, rfl⟩ := Int.eq_ofNat_of_zero_le h0
  have hj : j < l.length := by omega
  exact ⟨l[j], by rw [atI_nat, List.getElem?_eq_getElem hj], List.getElem_mem hj⟩
/-! ### step by step -/
theorem seq_nx {f1 f2 : List Dt → R Fl} {ρ ρ1 : List Dt} (h : f1 ρ = rok (.nx ρ1)) : dSeq f1 f2 ρ = f2 ρ1 := by unfold dSeq; rw [h]; rfl
theorem seq_rt {f1 f2 : List Dt → R Fl} {ρ : List Dt} {d : Dt} (h : f1 ρ = rok (.rt d)) : dSeq f1 f2 ρ = rok (.rt d) := by unfold dSeq; rw [h]; rfl
theorem seq_er {f1 f2 : List Dt → R Fl} {ρ : List Dt} {k : Nat} (h : f1 ρ = some (.error k)) : dSeq f1 f2 ρ = some (.error k) := by unfold dSeq; rw [h]; rfl
theorem set_to {i : Nat} {f : List Dt → R Dt} {ρ : List Dt} {d : Dt} (h : f ρ = rok d) : dSet i f ρ = rok (.nx (ρ.set i d)) := by unfold dSet; rw [h]; rfl
theorem set_er {i : Nat} {f : List Dt → R Dt} {ρ : List Dt} {k : Nat} (h : f ρ = some (.error k)) : dSet i f ρ = some (.error k) := by unfold dSet; rw [h]; rfl
theorem drop_to {f : List Dt → R Dt} {ρ : List Dt} {d : Dt} (h : f ρ = rok d) : dDrop f ρ = rok (.nx ρ) := by unfold dDrop; rw [h]; rfl
theorem drop_er {f : List Dt → R Dt} {ρ : List Dt} {k : Nat} (h : f ρ = some (.error k)) : dDrop f ρ = some (.error k) := by unfold dDrop; rw [h]; rfl
theorem ifS_t {p : List Dt → R Bool} {s1 s2 : List Dt → R Fl} {ρ : List Dt} (h : p ρ = rok true) : dIfS p s1 s2 ρ = s1 ρ := by unfold dIfS; rw [h]; rfl
theorem ifS_f {p : List Dt → R Bool} {s1 s2 : List Dt → R Fl} {ρ : List Dt} (h : p ρ = rok false) : dIfS p s1 s2 ρ = s2 ρ := by unfold dIfS; rw [h]; rfl
theorem if_t {p : List Dt → R Bool} {s1 s2 : List Dt → R Dt} {ρ : List Dt} (h : p ρ = rok true) : dIf p s1 s2 ρ = s1 ρ := by unfold dIf; rw [h]; rfl
theorem if_f {p : List Dt → R Bool} {s1 s2 : List Dt → R Dt} {ρ : List Dt} (h : p ρ = rok false) : dIf p s1 s2 ρ = s2 ρ := by unfold dIf; rw [h]; rfl
theorem ret_to {rk : RK} {f : List Dt → R Dt} {ρ : List Dt} {d : Dt} (h : f ρ = rok d) (c : retC rk d = true) : dRet rk f ρ = rok (.rt d) := by unfold dRet; rw [h, rbind_ok, if_pos c]
theorem ret_er {rk : RK} {f : List Dt → R Dt} {ρ : List Dt} {k : Nat} (h : f ρ = some (.error k)) : dRet rk f ρ = some (.error k) := by unfold dRet; rw [h]; rfl
theorem fn_rt {rk : RK} {m : Nat} {s : List Dt → R Fl} {ds : List Dt} {d : Dt} (h : s (ds ++ List.replicate m .non) = rok (.rt d)) : dFn rk m s ds = rok d := by unfold dFn; rw [h]; rfl
theorem fn_er {rk : RK} {m : Nat} {s : List Dt → R Fl} {ds : List Dt} {k : Nat} (h : s (ds ++ List.replicate m .non) = some (.error k)) : dFn rk m s ds = some (.error k) := by unfold dFn; rw [h]; rfl
theorem fn_nx {m : Nat} {s : List Dt → R Fl} {ds ρ : List Dt} (h : s (ds ++ List.replicate m .non) = rok (.nx ρ)) : dFn .flat m s ds = rok .non := by unfold dFn; rw [h]; rfl
theorem d2_to {h : Dt → Dt → R Dt} {f1 f2 : List Dt → R Dt} {ρ : List Dt} {a b : Dt} (h1 : f1 ρ = rok a) (h2 : f2 ρ = rok b) : d2 h f1 f2 ρ = h a b := by unfold d2; rw [h1, rbind_ok, h2, rbind_ok]
theorem d1_to {h : Dt → R Dt} {f1 : List Dt → R Dt} {ρ : List Dt} {a : Dt} (h1 : f1 ρ = rok a) : d1 h f1 ρ = h a := by unfold d1; rw [h1, rbind_ok]
theorem call_1 {h : List Dt → R Dt} {f1 : List Dt → R Dt} {ρ : List Dt} {a : Dt} (h1 : f1 ρ = rok a) : dCall h (aCons f1 aNil) ρ = h [a] := by simp only [ev_Call, ev_aCons, ev_aNil, h1, rbind_ok]
theorem call_2 {h : List Dt → R Dt} {f1 f2 : List Dt → R Dt} {ρ : List Dt} {a b : Dt} (h1 : f1 ρ = rok a) (h2 : f2 ρ = rok b) : dCall h (aCons f1 (aCons f2 aNil)) ρ = h [a, b] := by simp only [ev_Call, ev_aCons, ev_aNil, h1, h2, rbind_ok]
theorem call_3 {h : List Dt → R Dt} {f1 f2 f3 : List Dt → R Dt} {ρ : List Dt} {a b c : Dt} (h1 : f1 ρ = rok a) (h2 : f2 ρ = rok b) (h3 : f3 ρ = rok c) : dCall h (aCons f1 (aCons f2 (aCons f3 aNil))) ρ = h [a, b, c] := by simp only [ev_Call, ev_aCons, ev_aNil, h1, h2, h3, rbind_ok]
theorem t_to {f : List Dt → R Dt} {ρ : List Dt} {b : Bool} (h : f ρ = rok (.bl b)) : dT f ρ = rok b := by unfold dT; rw [h]; rfl
theorem tr_to {f : List Dt → R Dt} {ρ : List Dt} {d : Dt} (h : f ρ = rok d) : dTr f ρ = tru d := by unfold dTr; rw [h]; rfl
theorem and_t {p1 p2 : List Dt → R Bool} {ρ : List Dt} (h : p1 ρ = rok true) : pAnd p1 p2 ρ = p2 ρ := by unfold pAnd; rw [h]; rfl
theorem and_f {p1 p2 : List Dt → R Bool} {ρ : List Dt} (h : p1 ρ = rok false) : pAnd p1 p2 ρ = rok false := by unfold pAnd; rw [h]; rfl
theorem or_t {p1 p2 : List Dt → R Bool} {ρ : List Dt} (h : p1 ρ = rok true) : pOr p1 p2 ρ = rok true := by unfold pOr; rw [h]; rfl
theorem or_f {p1 p2 : List Dt → R Bool} {ρ : List Dt} (h : p1 ρ = rok false) : pOr p1 p2 ρ = p2 ρ := by unfold pOr; rw [h]; rfl
theorem not_to {p1 : List Dt → R Bool} {ρ : List Dt} {b : Bool} (h : p1 ρ = rok b) : pNot p1 ρ = rok (!b) := by unfold pNot; rw [h]; rfl
theorem lst_to {f : List Dt → R Dt} {ρ : List Dt} {l : List Dt} (h : f ρ = rok (.lst l)) : iLst f ρ = rok l := ev_iLst _ _ _ h
theorem for_to {it : List Dt → R (List Dt)} {set : Dt → List Dt → Option (List Dt)} {s : List Dt → R Fl} {ρ : List Dt} {l : List Dt} (h : it ρ = rok l) : dFor it set s ρ = dForL set s l ρ := by unfold dFor; rw [h]; rfl
theorem rep_to (a : List Dt) (k : Nat) (h : a.length * k ≤ 16777216 ∧ k < 16777216) : dRep (.lst a) (.int (k : Int)) = rok (.lst (List.replicate k a).flatten) := by
  rw [ev_rep, if_pos ⟨by omega, by rw [Int.toNat_natCast]; exact h.1, by omega⟩, Int.toNat_natCast]
theorem cat_to (a b : List Dt) (h : a.length + b.length ≤ 16777216) : dCat (.lst a) (.lst b) = rok (.lst (a ++ b)) := if_pos h
theorem lst1_to {f : List Dt → R Dt} {ρ : List Dt} {d : Dt} (h : f ρ = rok d) : dLst (aCons f aNil) ρ = rok (.lst [d]) := by
  simp only [ev_Lst, ev_aCons, ev_aNil, h, rbind_ok, List.length_cons, List.length_nil, Nat.reduceAdd, Nat.reduceLeDiff, if_true]
theorem app_to {i : Nat} {f : List Dt → R Dt} {ρ : List Dt} {d : Dt} {l : List Dt} (h : f ρ = rok d) (hl : ρ[i]? = some (.lst l)) (hb : l.length < 16777216) : dAppend i f ρ = rok (.nx (ρ.set i (.lst (l ++ [d])))) := by
  rw [ev_Append, h, rbind_ok, ev_onLst i _ ρ l hl]
  have : kAppend [d] l = rok (l ++ [d]) := if_pos hb
  rw [this, rbind_ok]
theorem put_to {i : Nat} {fv fi : List Dt → R Dt} {ρ : List Dt} {d : Dt} {l : List Dt} {j : Int} {m : Nat} (h : fv ρ = rok d) (h2 : fi ρ = rok (.int j)) (hl : ρ[i]? = some (.lst l)) (hm : ixN l.length j = some m) : dPut i fv fi ρ = rok (.nx (ρ.set i (.lst (l.set m d)))) := by
  unfold dPut
  rw [h, rbind_ok, h2, rbind_ok]
  show onLst i (fun l => match ixN l.length j with | some m => rok (l.set m d) | none => none) ρ = _
  rw [ev_onLst i _ ρ l hl]
  simp only [hm, rbind_ok]
theorem ixN_last (n : Nat) : ixN (n + 1) (-1) = some n := by
  unfold ixN
  rw [if_neg (by decide), if_pos (by omega)]
  have : ((-1 : Int) + ((n + 1 : Nat) : Int)).toNat = n := by omega
  rw [this]
theorem tup2_to {f1 f2 : List Dt → R Dt} {ρ : List Dt} {a b : Dt} (h1 : f1 ρ = rok a) (h2 : f2 ρ = rok b) : dTup (aCons f1 (aCons f2 aNil)) ρ = rok (.tup [a, b]) := by
  simp only [ev_Tup, ev_aCons, ev_aNil, h1, h2, rbind_ok, List.length_cons, List.length_nil, Nat.reduceAdd, Nat.reduceLeDiff, if_true]
theorem m_to {k : Str → Dt → R Dt} {f1 f2 : List Dt → R Dt} {ρ : List Dt} {z : Str} {b : Dt} (h1 : f1 ρ = rok (.str z)) (h2 : f2 ρ = rok b) : dM k f1 f2 ρ = k z b := by rw [ev_M, h1, rbind_ok, ev_isStr, rbind_ok, h2, rbind_ok]
theorem ml_to {k : List Dt → Dt → R Dt} {f1 f2 : List Dt → R Dt} {ρ : List Dt} {z : List Dt} {b : Dt} (h1 : f1 ρ = rok (.lst z)) (h2 : f2 ρ = rok b) : dML k f1 f2 ρ = k z b := by rw [ev_ML, h1, rbind_ok, ev_isLst, rbind_ok, h2, rbind_ok]
end VL

set_option Elab.async false
set_option linter.all false
set_option maxRecDepth 100000
set_option maxHeartbeats 4000000
namespace VL
open PySem PySem.Spec PyProof.Rows L2
def den_width : List Dt → R Dt := dFn .flat 1 (dSeq (dSet 1 (dC (.int 0))) (dSeq (dWhile 100 (dT (d2 dGt (dVar 0) (dC (.int 0)))) (dSeq (dSet 0 (d2 dFdiv (dVar 0) (dC (.int 2)))) (dSet 1 (d2 dAdd (dVar 1) (dC (.int 1)))))) (dRet .flat (dVar 1))))
def den_bits_of : List Dt → R Dt := dFn .flat 2 (dSeq (dSet 2 (dC (.str ""))) (dSeq (dFor (iRng (aCons (dVar 1) aNil) rng1) (setN 3) (dSeq (dSet 2 (d2 dAdd (dCall (one bStr) (aCons (d2 dMod (dVar 0) (dC (.int 2))) aNil)) (dVar 2))) (dSet 0 (d2 dFdiv (dVar 0) (dC (.int 2)))))) (dRet .flat (dVar 2))))
def den_Tape_init : List Dt → R Dt := dFnM 0 (dSeq (dAttr 0 4 0 (dVar 1)) (dAttr 0 4 1 (dC (.int 0))))
def den_Tape_take : List Dt → R Dt := dFnM 2 (dSeq (dIfS (dT (d2 dGt (d2 dAdd (d1 (gAttr 4 1) (dVar 0)) (dVar 1)) (dCall (one bLen) (aCons (d1 (gAttr 4 0) (dVar 0)) aNil)))) (dRaise 3) dNext) (dSeq (dSet 2 (dC (.int 0))) (dSeq (dFor (iStrD (dSl sliceF (d1 (gAttr 4 0) (dVar 0)) (oSome (d1 (gAttr 4 1) (dVar 0))) (oSome (d2 dAdd (d1 (gAttr 4 1) (dVar 0)) (dVar 1))))) (setN 3) (dSet 2 (d2 dAdd (d2 dMul (dC (.int 2)) (dVar 2)) (dCall (one bInt) (aCons (d2 dEq (dVar 3) (dC (.str "1"))) aNil))))) (dSeq (dAttr 0 4 1 (d2 dAdd (d1 (gAttr 4 1) (dVar 0)) (dVar 1))) (dRetM (dVar 2))))))
def den_look_values : List Dt → R Dt := dFn .flat 1 (dSeq (dIfS (pNot (dT (d3 dLe dLe (dC (.int 1)) (dCall (one bLen) (aCons (dVar 0) aNil)) (dC (.int 100))))) (dRaise 1) dNext) (dFor (iLst (dVar 0)) (setN 1) (dIfS (pAnd (dT (d2 dNotN (dVar 1) (dC .non))) (pNot (dT (d3 dLe dLe (d1 dNeg (dC (.int 4000000))) (dVar 1) (dC (.int 4000000)))))) (dRaise 1) dNext)))
def den_code : List Dt → R Dt := dFn .flat 0 (dRet .flat (dIf (dT (d2 dIsN (dVar 0) (dC .non))) (dC (.int 0)) (d2 dAdd (d2 dAdd (dVar 0) (dC (.int 4000000))) (dC (.int 1)))))
def den_value_of : List Dt → R Dt := dFn .flat 0 (dSeq (dIfS (dT (d2 dGt (dVar 0) (d2 dAdd (d2 dMul (dC (.int 2)) (dC (.int 4000000))) (dC (.int 1))))) (dRaise 3) dNext) (dRet .flat (dIf (dT (d2 dEq (dVar 0) (dC (.int 0)))) (dC .non) (d2 dSub (d2 dSub (dVar 0) (dC (.int 4000000))) (dC (.int 1))))))
def den_runs_of : List Dt → R Dt := dFn .own 2 (dSeq (dSet 1 (dLst aNil)) (dSeq (dFor (iLst (dVar 0)) (setN 2) (dIfS (pAnd (dTr (dVar 1)) (dT (d2 dEq (d2 dIx (d2 dIx (dVar 1) (d1 dNeg (dC (.int 1)))) (dC (.int 0))) (dVar 2)))) (dPut 1 (dTup (aCons (dVar 2) (aCons (d2 dAdd (d2 dIx (d2 dIx (dVar 1) (d1 dNeg (dC (.int 1)))) (dC (.int 1))) (dC (.int 1))) aNil))) (d1 dNeg (dC (.int 1)))) (dAppend 1 (dTup (aCons (dVar 2) (aCons (dC (.int 1)) aNil)))))) (dRet .own (dVar 1))))
def den_book_of : List Dt → R Dt := dFn .ownf 2 (dSeq (dSet 1 (dLst aNil)) (dSeq (dFor (iLst (dVar 0)) (setN 2) (dIfS (dT (d2 dNotIn (dVar 2) (dVar 1))) (dAppend 1 (dVar 2)) dNext)) (dRet .ownf (dVar 1))))
def den_base_of : List Dt → R Dt := dFn .flat 1 (dRet .flat (d2 (bDflt minI) (dComp (iLst (dVar 0)) (setN 1) (dT (d2 dNotN (dVar 1) (dC .non))) (dVar 1)) (dC (.int 0))))
def den_base_codes : List Dt → R Dt := dFn .ownf 2 (dSeq (dSet 1 (dCall den_base_of (aCons (dVar 0) aNil))) (dRet .ownf (dComp (iLst (dVar 0)) (setN 2) pYes (dIf (dT (d2 dIsN (dVar 2) (dC .non))) (dC (.int 0)) (d2 dAdd (d2 dSub (dVar 2) (dVar 1)) (dC (.int 1)))))))
def den_step_codes : List Dt → R Dt := dFn .fz 3 (dSeq (dIfS (dT (d2 dIn (dC .non) (dVar 0))) (dRet .fz (dC .non)) dNext) (dSeq (dSet 1 (dLst aNil)) (dSeq (dFor (iRng (aCons (dC (.int 1)) (aCons (dCall (one bLen) (aCons (dVar 0) aNil)) aNil)) rng2) (setN 2) (dSeq (dSet 3 (d2 dSub (d2 dIx (dVar 0) (dVar 2)) (d2 dIx (dVar 0) (d2 dSub (dVar 2) (dC (.int 1)))))) (dAppend 1 (dIf (dT (d2 dGe (dVar 3) (dC (.int 0)))) (d2 dMul (dC (.int 2)) (dVar 3)) (d2 dSub (d2 dMul (d1 dNeg (dC (.int 2))) (dVar 3)) (dC (.int 1))))))) (dRet .fz (dVar 1)))))
def den_widest : List Dt → R Dt := dFn .flat 0 (dRet .flat (dCall den_width (aCons (d2 (bDflt maxI) (dVar 0) (dC (.int 0))) aNil)))
def den_room : List Dt → R Dt := dFn .flat 3 (dSeq (dDrop (dCall den_look_values (aCons (dVar 1) aNil))) (dSeq (dSet 2 (dCall (one bLen) (aCons (dVar 1) aNil))) (dSeq (dIfS (dT (d2 dEq (dVar 0) (dC (.str "plain")))) (dRet .flat (d2 dAdd (dC (.int 11)) (d2 dMul (dC (.int 24)) (dVar 2)))) dNext) (dSeq (dIfS (dT (d2 dEq (dVar 0) (dC (.str "runs")))) (dRet .flat (d2 dAdd (d2 dAdd (dC (.int 11)) (dC (.int 8))) (d2 dMul (d2 dAdd (dC (.int 24)) (dC (.int 8))) (dCall (one bLen) (aCons (dCall den_runs_of (aCons (dVar 1) aNil)) aNil))))) dNext) (dSeq (dIfS (dT (d2 dEq (dVar 0) (dC (.str "book")))) (dSeq (dSet 3 (dCall (one bLen) (aCons (dCall den_book_of (aCons (dVar 1) aNil)) aNil))) (dRet .flat (dIf (dT (d2 dLe (dVar 3) (dC (.int 64)))) (d2 dAdd (d2 dAdd (d2 dAdd (dC (.int 11)) (dC (.int 6))) (d2 dMul (dC (.int 24)) (dVar 3))) (d2 dMul (dCall den_width (aCons (d2 dSub (dVar 3) (dC (.int 1))) aNil)) (dVar 2))) (dC .non)))) dNext) (dSeq (dIfS (dT (d2 dEq (dVar 0) (dC (.str "base")))) (dRet .flat (d2 dAdd (d2 dAdd (d2 dAdd (dC (.int 11)) (dC (.int 24))) (dC (.int 5))) (d2 dMul (dCall den_widest (aCons (dCall den_base_codes (aCons (dVar 1) aNil)) aNil)) (dVar 2)))) dNext) (dSeq (dIfS (dT (d2 dNe (dVar 0) (dC (.str "steps")))) (dRaise 2) dNext) (dSeq (dSet 4 (dCall den_step_codes (aCons (dVar 1) aNil))) (dRet .flat (dIf (dT (d2 dNotN (dVar 4) (dC .non))) (d2 dAdd (d2 dAdd (d2 dAdd (dC (.int 11)) (dC (.int 24))) (dC (.int 5))) (d2 dMul (dCall den_widest (aCons (dVar 4) aNil)) (d2 dSub (dVar 2) (dC (.int 1))))) (dC .non)))))))))))
def den_packed : List Dt → R Dt := dFn .flat 9 (dSeq (dIfS (dT (d2 dIsN (dCall den_room (aCons (dVar 0) (aCons (dVar 1) aNil))) (dC .non))) (dRaise 2) dNext) (dSeq (dSet 2 (d2 dAdd (dCall den_bits_of (aCons (d1 (kIndexT ["plain", "runs", "book", "base", "steps"]) (dVar 0)) (aCons (dC (.int 3)) aNil))) (dCall den_bits_of (aCons (d2 dSub (dCall (one bLen) (aCons (dVar 1) aNil)) (dC (.int 1))) (aCons (dC (.int 8)) aNil))))) (dSeq (dIfS (dT (d2 dEq (dVar 0) (dC (.str "plain")))) (dRet .flat (d2 dAdd (dVar 2) (dM mJoin (dC (.str "")) (dComp (iLst (dVar 1)) (setN 9) pYes (dCall den_bits_of (aCons (dCall den_code (aCons (dVar 9) aNil)) (aCons (dC (.int 24)) aNil))))))) dNext) (dSeq (dIfS (dT (d2 dEq (dVar 0) (dC (.str "runs")))) (dSeq (dSet 3 (dCall den_runs_of (aCons (dVar 1) aNil))) (dSeq (dSet 4 (dComp (iLst (dVar 3)) (setT2 9 6) pYes (d2 dAdd (dCall den_bits_of (aCons (dCall den_code (aCons (dVar 9) aNil)) (aCons (dC (.int 24)) aNil))) (dCall den_bits_of (aCons (d2 dSub (dVar 6) (dC (.int 1))) (aCons (dC (.int 8)) aNil)))))) (dRet .flat (d2 dAdd (d2 dAdd (dVar 2) (dCall den_bits_of (aCons (d2 dSub (dCall (one bLen) (aCons (dVar 3) aNil)) (dC (.int 1))) (aCons (dC (.int 8)) aNil)))) (dM mJoin (dC (.str "")) (dVar 4)))))) dNext) (dSeq (dIfS (dT (d2 dEq (dVar 0) (dC (.str "book")))) (dSeq (dSet 5 (dCall den_book_of (aCons (dVar 1) aNil))) (dSeq (dSet 4 (dComp (iLst (dVar 5)) (setN 9) pYes (dCall den_bits_of (aCons (dCall den_code (aCons (dVar 9) aNil)) (aCons (dC (.int 24)) aNil))))) (dSeq (dSet 6 (dCall den_width (aCons (d2 dSub (dCall (one bLen) (aCons (dVar 5) aNil)) (dC (.int 1))) aNil))) (dSeq (dExtend 4 (dComp (iLst (dVar 1)) (setN 9) pYes (dCall den_bits_of (aCons (dML mIndex (dVar 5) (dVar 9)) (aCons (dVar 6) aNil))))) (dRet .flat (d2 dAdd (d2 dAdd (dVar 2) (dCall den_bits_of (aCons (d2 dSub (dCall (one bLen) (aCons (dVar 5) aNil)) (dC (.int 1))) (aCons (dC (.int 6)) aNil)))) (dM mJoin (dC (.str "")) (dVar 4)))))))) dNext) (dSeq (dSet 7 (dIf (dT (d2 dEq (dVar 0) (dC (.str "base")))) (dCall den_base_codes (aCons (dVar 1) aNil)) (dCall den_step_codes (aCons (dVar 1) aNil)))) (dSeq (dSet 8 (dIf (dT (d2 dEq (dVar 0) (dC (.str "base")))) (dCall den_base_of (aCons (dVar 1) aNil)) (d2 dIx (dVar 1) (dC (.int 0))))) (dSeq (dSet 6 (dCall den_widest (aCons (dVar 7) aNil))) (dRet .flat (d2 dAdd (d2 dAdd (d2 dAdd (dVar 2) (dCall den_bits_of (aCons (dCall den_code (aCons (dVar 8) aNil)) (aCons (dC (.int 24)) aNil)))) (dCall den_bits_of (aCons (dVar 6) (aCons (dC (.int 5)) aNil)))) (dM mJoin (dC (.str "")) (dComp (iLst (dVar 7)) (setN 10) pYes (dCall den_bits_of (aCons (dVar 10) (aCons (dVar 6) aNil)))))))))))))))
def den_need_value : List Dt → R Dt := dFnM 0 (dRetMX (dX1 den_value_of (dXM 0 4 den_Tape_take (aCons (dC (.int 24)) aNil))))
def den_read_runs : List Dt → R Dt := dFnM 3 (dSeq (dSet 2 (dLst aNil)) (dSeq (dForX (iRngX (d2XL dAdd (dXM 0 4 den_Tape_take (aCons (dC (.int 8)) aNil)) (dC (.int 1)))) (setN 3) (dSeq (dSetX 4 (dXF 0 den_need_value aNil)) (dExtendX 2 (d2XR dRep (dLst (aCons (dVar 4) aNil)) (d2XL dAdd (dXM 0 4 den_Tape_take (aCons (dC (.int 8)) aNil)) (dC (.int 1))))))) (dRetM (dVar 2))))
def den_read_book : List Dt → R Dt := dFnM 4 (dSeq (dSetX 2 (dCompX 0 (iRngX (d2XL dAdd (dXM 0 4 den_Tape_take (aCons (dC (.int 6)) aNil)) (dC (.int 1)))) (setN 4) (dXF 0 den_need_value aNil))) (dSeq (dSet 3 (dLst aNil)) (dSeq (dFor (iRng (aCons (dVar 1) aNil) rng1) (setN 4) (dSeq (dSetX 5 (dXM 0 4 den_Tape_take (aCons (dCall den_width (aCons (d2 dSub (dCall (one bLen) (aCons (dVar 2) aNil)) (dC (.int 1))) aNil)) aNil))) (dSeq (dIfS (dT (d2 dGe (dVar 5) (dCall (one bLen) (aCons (dVar 2) aNil)))) (dRaise 3) dNext) (dAppend 3 (d2 dIx (dVar 2) (dVar 5)))))) (dRetM (dVar 3)))))
def den_read_base : List Dt → R Dt := dFnM 5 (dSeq (dSetX 2 (dXF 0 den_need_value aNil)) (dSeq (dSetX 3 (dXM 0 4 den_Tape_take (aCons (dC (.int 5)) aNil))) (dSeq (dSetX 4 (dCompX 0 (iOfX (iRng (aCons (dVar 1) aNil) rng1)) (setN 5) (dXM 0 4 den_Tape_take (aCons (dVar 3) aNil)))) (dSeq (dIfS (dT (d2 dIsN (dVar 2) (dC .non))) (dRaise 3) dNext) (dRetM (dComp (iLst (dVar 4)) (setN 6) pYes (dIf (dT (d2 dEq (dVar 6) (dC (.int 0)))) (dC .non) (d2 dSub (d2 dAdd (dVar 2) (dVar 6)) (dC (.int 1))))))))))
def den_read_steps : List Dt → R Dt := dFnM 4 (dSeq (dSetX 2 (dLst1X (dXF 0 den_need_value aNil))) (dSeq (dSetX 3 (dXM 0 4 den_Tape_take (aCons (dC (.int 5)) aNil))) (dSeq (dIfS (dT (d2 dIsN (d2 dIx (dVar 2) (dC (.int 0))) (dC .non))) (dRaise 3) dNext) (dSeq (dFor (iRng (aCons (d2 dSub (dVar 1) (dC (.int 1))) aNil) rng1) (setN 4) (dSeq (dSetX 5 (dXM 0 4 den_Tape_take (aCons (dVar 3) aNil))) (dAppend 2 (d2 dAdd (d2 dIx (dVar 2) (d1 dNeg (dC (.int 1)))) (dIf (dT (d2 dEq (d2 dMod (dVar 5) (dC (.int 2))) (dC (.int 0)))) (d2 dFdiv (dVar 5) (dC (.int 2))) (d2 dFdiv (d1 dNeg (d2 dAdd (dVar 5) (dC (.int 1)))) (dC (.int 2)))))))) (dRetM (dVar 2))))))
def den_read_values : List Dt → R Dt := dFnM 1 (dSeq (dIfS (dT (d2 dEq (dVar 1) (dC (.str "plain")))) (dRetMX (dCompX 0 (iOfX (iRng (aCons (dVar 2) aNil) rng1)) (setN 3) (dXF 0 den_need_value aNil))) dNext) (dSeq (dIfS (dT (d2 dEq (dVar 1) (dC (.str "runs")))) (dRetMX (dXF 0 den_read_runs (aCons (dVar 2) aNil))) dNext) (dSeq (dIfS (dT (d2 dEq (dVar 1) (dC (.str "book")))) (dRetMX (dXF 0 den_read_book (aCons (dVar 2) aNil))) dNext) (dSeq (dIfS (dT (d2 dEq (dVar 1) (dC (.str "base")))) (dRetMX (dXF 0 den_read_base (aCons (dVar 2) aNil))) dNext) (dRetMX (dXF 0 den_read_steps (aCons (dVar 2) aNil)))))))
def den_read_block : List Dt → R Dt := dFnM 6 (dSeq (dSet 1 (d1 (gAttr 4 1) (dVar 0))) (dSeq (dSetX 2 (dXM 0 4 den_Tape_take (aCons (dC (.int 3)) aNil))) (dSeq (dIfS (dT (d2 dGe (dVar 2) (dCall (one bLen) (aCons (dC (.tup ((["plain", "runs", "book", "base", "steps"] : List Str).map Dt.str))) aNil)))) (dRaise 3) dNext) (dSeq (dSet 3 (d2 dIx (dC (.tup ((["plain", "runs", "book", "base", "steps"] : List Str).map Dt.str))) (dVar 2))) (dSeq (dSetX 4 (d2XL dAdd (dXM 0 4 den_Tape_take (aCons (dC (.int 8)) aNil)) (dC (.int 1)))) (dSeq (dIfS (dT (d2 dGt (dVar 4) (dC (.int 100)))) (dRaise 3) dNext) (dSeq (dSetX 5 (dXF 0 den_read_values (aCons (dVar 3) (aCons (dVar 4) aNil)))) (dSeq (dIfS (pOr (dT (d2 dNe (dCall (one bLen) (aCons (dVar 5) aNil)) (dVar 4))) (dT (dCall (one bAny) (aCons (dComp (iLst (dVar 5)) (setN 6) pYes (dAndV (d2 dNotN (dVar 6) (dC .non)) (d1 dNot (d3 dLe dLe (d1 dNeg (dC (.int 4000000))) (dVar 6) (dC (.int 4000000)))))) aNil)))) (dRaise 3) dNext) (dSeq (dIfS (dT (d2 dNe (dCall den_packed (aCons (dVar 3) (aCons (dVar 5) aNil))) (dSl sliceF (d1 (gAttr 4 0) (dVar 0)) (oSome (dVar 1)) (oSome (d1 (gAttr 4 1) (dVar 0)))))) (dRaise 3) dNext) (dRetM (dTup (aCons (dVar 3) (aCons (dVar 5) aNil)))))))))))))
def den_unpacked : List Dt → R Dt := dFn .fz 3 (dSeq (dIfS (pNot (dT (dCall (one bAll) (aCons (dComp (iStrD (dVar 0)) (setN 3) pYes (d2 dIn (dVar 3) (dC (.str "01")))) aNil)))) (dRaise 3) dNext) (dNewM 1 (dNew 4 2 den_Tape_init (aCons (dVar 0) aNil)) (dSeq (dSet 2 (dLst aNil)) (dSeq (dWhile 100 (dT (d2 dLt (d1 (gAttr 4 1) (dVar 1)) (dCall (one bLen) (aCons (dVar 0) aNil)))) (dAppendX 2 (dXF 1 den_read_block aNil))) (dRet .fz (dVar 2))))))
def den_law_cell : List Dt → R Dt := dFn .flat 0 (dSeq (dIfS (dTr (dVar 0)) (dRet .flat (d2 dIx (dVar 0) (d2 dMod (dVar 1) (dCall (one bLen) (aCons (dVar 0) aNil))))) dNext) (dRet .flat (dC (.int 0))))
def den_law_mix : List Dt → R Dt := dFn .flat 1 (dSeq (dSet 2 (d2 dMod (d2 dAdd (dCall den_law_cell (aCons (dVar 0) (aCons (dVar 1) aNil))) (d2 dMul (dC (.int 104729)) (d2 dAdd (dVar 1) (dC (.int 1))))) (dC (.int 4294967291)))) (dSeq (dSet 2 (d2 dMod (d2 dMul (dVar 2) (dC (.int 48271))) (dC (.int 4294967279)))) (dRet .flat (d2 dMod (d2 dAdd (d2 dMul (d2 dFdiv (dVar 2) (dC (.int 64))) (dC (.int 69621))) (dVar 2)) (dC (.int 4294967231))))))
def den_law_value : List Dt → R Dt := dFn .flat 2 (dSeq (dSet 2 (dCall den_law_mix (aCons (dVar 0) (aCons (dVar 1) aNil)))) (dSeq (dSet 3 (dLst (aCons (dC (.int 0)) (aCons (dC (.int 1)) (aCons (d1 dNeg (dC (.int 1))) (aCons (dC (.int 5)) (aCons (dC (.int 4000000)) (aCons (d1 dNeg (dC (.int 4000000))) (aCons (dC .non) (aCons (d2 dMod (d2 dFdiv (dVar 2) (dC (.int 16))) (dC (.int 9))) (aCons (d2 dSub (d2 dMod (d2 dFdiv (dVar 2) (dC (.int 16))) (dC (.int 300))) (dC (.int 150))) aNil))))))))))) (dRet .flat (d2 dIx (d2 dCat (dVar 3) (dLst (aCons (d2 dSub (d2 dMod (d2 dFdiv (dVar 2) (dC (.int 16))) (dC (.int 8000001))) (dC (.int 4000000))) aNil))) (d2 dMod (dVar 2) (dC (.int 10)))))))
def den_law_values : List Dt → R Dt := dFn .ownf 4 (dSeq (dSet 3 (dLst aNil)) (dSeq (dSet 4 (d2 dMod (dCall den_law_mix (aCons (dVar 0) (aCons (dVar 1) aNil))) (dC (.int 4)))) (dSeq (dWhile 100 (dT (d2 dLt (dCall (one bLen) (aCons (dVar 3) aNil)) (d2 dMod (dCall den_law_mix (aCons (dVar 0) (aCons (d2 dAdd (dVar 1) (dC (.int 1))) aNil))) (d2 dAdd (dVar 2) (dC (.int 1)))))) (dSeq (dSet 5 (dCall den_law_mix (aCons (dVar 0) (aCons (d2 dAdd (d2 dAdd (dVar 1) (dC (.int 2))) (dCall (one bLen) (aCons (dVar 3) aNil))) aNil)))) (dSeq (dSet 6 (dCall den_law_value (aCons (dVar 0) (aCons (d2 dAdd (d2 dAdd (dVar 1) (dC (.int 2))) (dCall (one bLen) (aCons (dVar 3) aNil))) aNil)))) (dSeq (dIfS (pAnd (dT (d2 dEq (dVar 4) (dC (.int 1)))) (pAnd (dTr (dVar 3)) (dT (d2 dNotN (d2 dIx (dVar 3) (d1 dNeg (dC (.int 1)))) (dC .non))))) (dSet 6 (dCall (two bMax2) (aCons (d1 dNeg (dC (.int 4000000))) (aCons (dCall (two bMin2) (aCons (dC (.int 4000000)) (aCons (d2 dSub (d2 dAdd (d2 dIx (dVar 3) (d1 dNeg (dC (.int 1)))) (d2 dMod (d2 dFdiv (dVar 5) (dC (.int 16))) (dC (.int 5)))) (dC (.int 1))) aNil))) aNil)))) dNext) (dSeq (dIfS (pAnd (dT (d2 dEq (dVar 4) (dC (.int 2)))) (pAnd (dTr (dVar 3)) (dT (d2 dGt (d2 dMod (dVar 5) (dC (.int 3))) (dC (.int 0)))))) (dSet 6 (d2 dIx (dVar 3) (d2 dMod (d2 dFdiv (dVar 5) (dC (.int 16))) (dCall (one bLen) (aCons (dVar 3) aNil))))) dNext) (dSet 3 (d2 dCat (dVar 3) (d2 dRep (dLst (aCons (dVar 6) aNil)) (dIf (dT (d2 dEq (dVar 4) (dC (.int 3)))) (d2 dIx (dLst (aCons (dC (.int 1)) (aCons (dC (.int 1)) (aCons (dC (.int 3)) (aCons (dC (.int 7)) aNil))))) (d2 dMod (d2 dFdiv (dVar 5) (dC (.int 4096))) (dC (.int 4)))) (dC (.int 1))))))))))) (dRet .ownf (dSl sliceL (dVar 3) oNone (oSome (dVar 2)))))))
def den_law_need : List Dt → R Dt := dFn .flat 1 (dSeq (dSet 1 (dC (.int 0))) (dSeq (dWhile 100 (dT (d2 dGt (dVar 0) (dC (.int 0)))) (dSeq (dSet 0 (d2 dFdiv (dVar 0) (dC (.int 2)))) (dSet 1 (d2 dAdd (dVar 1) (dC (.int 1)))))) (dRet .flat (dVar 1))))
def den_law_runs : List Dt → R Dt := dFn .flat 1 (dRet .flat (d2 dAdd (dC (.int 1)) (dCall (one bLen) (aCons (dComp (iRng (aCons (dC (.int 1)) (aCons (dCall (one bLen) (aCons (dVar 0) aNil)) aNil)) rng2) (setN 1) (dT (d2 dNe (d2 dIx (dVar 0) (dVar 1)) (d2 dIx (dVar 0) (d2 dSub (dVar 1) (dC (.int 1)))))) (dVar 1)) aNil))))
def den_law_book : List Dt → R Dt := dFn .ownf 1 (dRet .ownf (dComp (iRng (aCons (dCall (one bLen) (aCons (dVar 0) aNil)) aNil) rng1) (setN 1) (dT (d2 dNotIn (d2 dIx (dVar 0) (dVar 1)) (dSl sliceL (dVar 0) oNone (oSome (dVar 1))))) (d2 dIx (dVar 0) (dVar 1))))
def den_law_above : List Dt → R Dt := dFn .ownf 2 (dSeq (dSet 1 (dComp (iLst (dVar 0)) (setN 2) (dT (d2 dNotN (dVar 2) (dC .non))) (dVar 2))) (dRet .ownf (dComp (iLst (dVar 0)) (setN 2) pYes (dIf (dT (d2 dIsN (dVar 2) (dC .non))) (dC (.int 0)) (d2 dAdd (d2 dSub (dVar 2) (dCall (one bMinL) (aCons (dVar 1) aNil))) (dC (.int 1)))))))
def den_law_steps : List Dt → R Dt := dFn .ownf 3 (dSeq (dSet 1 (dLst aNil)) (dSeq (dFor (iRng (aCons (dC (.int 1)) (aCons (dCall (one bLen) (aCons (dVar 0) aNil)) aNil)) rng2) (setN 2) (dSeq (dSet 3 (d2 dSub (d2 dIx (dVar 0) (dVar 2)) (d2 dIx (dVar 0) (d2 dSub (dVar 2) (dC (.int 1)))))) (dAppend 1 (dIf (dT (d2 dGe (dVar 3) (dC (.int 0)))) (d2 dMul (dC (.int 2)) (dVar 3)) (d2 dSub (d2 dMul (d1 dNeg (dC (.int 2))) (dVar 3)) (dC (.int 1))))))) (dRet .ownf (dVar 1))))
def den_law_room : List Dt → R Dt := dFn .flat 2 (dSeq (dSet 2 (dCall (one bLen) (aCons (dVar 1) aNil))) (dSeq (dIfS (dT (d2 dEq (dVar 0) (dC (.str "plain")))) (dRet .flat (d2 dAdd (dC (.int 11)) (d2 dMul (dC (.int 24)) (dVar 2)))) dNext) (dSeq (dIfS (dT (d2 dEq (dVar 0) (dC (.str "runs")))) (dRet .flat (d2 dAdd (dC (.int 19)) (d2 dMul (dC (.int 32)) (dCall den_law_runs (aCons (dVar 1) aNil))))) dNext) (dSeq (dIfS (dT (d2 dEq (dVar 0) (dC (.str "book")))) (dSeq (dSet 3 (dCall (one bLen) (aCons (dCall den_law_book (aCons (dVar 1) aNil)) aNil))) (dRet .flat (dIf (dT (d2 dGt (dVar 3) (dC (.int 64)))) (dC .non) (d2 dAdd (d2 dAdd (dC (.int 17)) (d2 dMul (dC (.int 24)) (dVar 3))) (d2 dMul (dVar 2) (dCall den_law_need (aCons (d2 dSub (dVar 3) (dC (.int 1))) aNil))))))) dNext) (dSeq (dIfS (dT (d2 dEq (dVar 0) (dC (.str "base")))) (dRet .flat (d2 dAdd (dC (.int 40)) (d2 dMul (dVar 2) (dCall den_law_need (aCons (dCall (one bMaxL) (aCons (dCall den_law_above (aCons (dVar 1) aNil)) aNil)) aNil))))) dNext) (dSeq (dIfS (dT (d2 dIn (dC .non) (dVar 1))) (dRet .flat (dC .non)) dNext) (dRet .flat (d2 dAdd (dC (.int 40)) (d2 dMul (d2 dSub (dVar 2) (dC (.int 1))) (dCall den_law_need (aCons (dCall (one bMaxL) (aCons (d2 dCat (dLst (aCons (dC (.int 0)) aNil)) (dCall den_law_steps (aCons (dVar 1) aNil))) aNil)) aNil)))))))))))
def den_law_bits : List Dt → R Dt := dFn .flat 1 (dSeq (dSet 2 (dC (.str ""))) (dSeq (dWhile 100 (dT (d2 dLt (dCall (one bLen) (aCons (dVar 2) aNil)) (dVar 1))) (dSeq (dSet 2 (d2 dAdd (d2 dIx (dC (.str "01")) (d2 dMod (dVar 0) (dC (.int 2)))) (dVar 2))) (dSet 0 (d2 dFdiv (dVar 0) (dC (.int 2)))))) (dRet .flat (dVar 2))))
def den_law_plain : List Dt → R Dt := dFn .flat 0 (dRet .flat (dCall den_law_bits (aCons (dIf (dT (d2 dIsN (dVar 0) (dC .non))) (dC (.int 0)) (d2 dAdd (dVar 0) (dC (.int 4000001)))) (aCons (dC (.int 24)) aNil))))
def den_law_packed : List Dt → R Dt := dFn .flat 12 (dSeq (dSet 2 (dML mIndex (dLst (aCons (dC (.str "plain")) (aCons (dC (.str "runs")) (aCons (dC (.str "book")) (aCons (dC (.str "base")) (aCons (dC (.str "steps")) aNil)))))) (dVar 0))) (dSeq (dSet 3 (d2 dAdd (dCall den_law_bits (aCons (dVar 2) (aCons (dC (.int 3)) aNil))) (dCall den_law_bits (aCons (d2 dSub (dCall (one bLen) (aCons (dVar 1) aNil)) (dC (.int 1))) (aCons (dC (.int 8)) aNil))))) (dSeq (dIfS (dT (d2 dEq (dVar 0) (dC (.str "plain")))) (dRet .flat (d2 dAdd (dVar 3) (dM mJoin (dC (.str "")) (dComp (iLst (dVar 1)) (setN 11) pYes (dCall den_law_plain (aCons (dVar 11) aNil)))))) dNext) (dSeq (dIfS (dT (d2 dEq (dVar 0) (dC (.str "runs")))) (dSeq (dSet 4 (dComp (iRng (aCons (dCall (one bLen) (aCons (dVar 1) aNil)) aNil) rng1) (setN 6) (pOr (dT (d2 dEq (dVar 6) (dC (.int 0)))) (dT (d2 dNe (d2 dIx (dVar 1) (dVar 6)) (d2 dIx (dVar 1) (d2 dSub (dVar 6) (dC (.int 1))))))) (dVar 6))) (dSeq (dAppend 4 (dCall (one bLen) (aCons (dVar 1) aNil))) (dSeq (dSet 5 (dLst (aCons (dCall den_law_bits (aCons (d2 dSub (dCall (one bLen) (aCons (dVar 4) aNil)) (dC (.int 2))) (aCons (dC (.int 8)) aNil))) aNil))) (dSeq (dFor (iRng (aCons (d2 dSub (dCall (one bLen) (aCons (dVar 4) aNil)) (dC (.int 1))) aNil) rng1) (setN 6) (dSeq (dSet 7 (d2 dSub (d2 dIx (dVar 4) (d2 dAdd (dVar 6) (dC (.int 1)))) (d2 dIx (dVar 4) (dVar 6)))) (dAppend 5 (d2 dAdd (dCall den_law_plain (aCons (d2 dIx (dVar 1) (d2 dIx (dVar 4) (dVar 6))) aNil)) (dCall den_law_bits (aCons (d2 dSub (dVar 7) (dC (.int 1))) (aCons (dC (.int 8)) aNil))))))) (dRet .flat (d2 dAdd (dVar 3) (dM mJoin (dC (.str "")) (dVar 5)))))))) dNext) (dSeq (dIfS (dT (d2 dEq (dVar 0) (dC (.str "book")))) (dSeq (dSet 8 (dCall den_law_book (aCons (dVar 1) aNil))) (dSeq (dSet 7 (dCall den_law_need (aCons (d2 dSub (dCall (one bLen) (aCons (dVar 8) aNil)) (dC (.int 1))) aNil))) (dSeq (dSet 5 (d2 dCat (dLst (aCons (dCall den_law_bits (aCons (d2 dSub (dCall (one bLen) (aCons (dVar 8) aNil)) (dC (.int 1))) (aCons (dC (.int 6)) aNil))) aNil)) (dComp (iLst (dVar 8)) (setN 12) pYes (dCall den_law_plain (aCons (dVar 12) aNil))))) (dRet .flat (d2 dAdd (dVar 3) (dM mJoin (dC (.str "")) (d2 dCat (dVar 5) (dComp (iLst (dVar 1)) (setN 11) pYes (dCall den_law_bits (aCons (dML mIndex (dVar 8) (dVar 11)) (aCons (dVar 7) aNil))))))))))) dNext) (dSeq (dSet 9 (dIf (dT (d2 dEq (dVar 0) (dC (.str "base")))) (dCall den_law_above (aCons (dVar 1) aNil)) (dCall den_law_steps (aCons (dVar 1) aNil)))) (dSeq (dSet 10 (d2 dIx (dVar 1) (dC (.int 0)))) (dSeq (dIfS (dT (d2 dEq (dVar 0) (dC (.str "base")))) (dSet 10 (d2 (bDflt minI) (dComp (iLst (dVar 1)) (setN 11) (dT (d2 dNotN (dVar 11) (dC .non))) (dVar 11)) (dC (.int 0)))) dNext) (dSeq (dSet 7 (dCall den_law_need (aCons (dCall (one bMaxL) (aCons (d2 dCat (dLst (aCons (dC (.int 0)) aNil)) (dVar 9)) aNil)) aNil))) (dSeq (dSet 3 (d2 dAdd (d2 dAdd (dVar 3) (dCall den_law_plain (aCons (dVar 10) aNil))) (dCall den_law_bits (aCons (dVar 7) (aCons (dC (.int 5)) aNil))))) (dRet .flat (d2 dAdd (dVar 3) (dM mJoin (dC (.str "")) (dComp (iLst (dVar 9)) (setN 13) pYes (dCall den_law_bits (aCons (dVar 13) (aCons (dVar 7) aNil)))))))))))))))))
def den_law : List Dt → R Dt := dFn .flat 10 (dSeq (dSet 1 (dC (.str ""))) (dSeq (dSet 2 (dLst aNil)) (dSeq (dFor (iRng (aCons (d2 dMod (dCall den_law_mix (aCons (dVar 0) (aCons (dC (.int 0)) aNil))) (dC (.int 5))) aNil) rng1) (setN 3) (dSeq (dSet 4 (dOrT (dCall den_law_values (aCons (dVar 0) (aCons (d2 dAdd (dC (.int 1)) (d2 dMul (dC (.int 20)) (dVar 3))) (aCons (dC (.int 10)) aNil)))) (dLst (aCons (dC .non) aNil)))) (dSeq (dSet 5 (d2 dIx (dLst (aCons (dC (.str "plain")) (aCons (dC (.str "runs")) (aCons (dC (.str "book")) (aCons (dC (.str "base")) (aCons (dC (.str "steps")) aNil)))))) (d2 dMod (dCall den_law_mix (aCons (dVar 0) (aCons (d2 dAdd (dC (.int 15)) (d2 dMul (dC (.int 20)) (dVar 3))) aNil))) (dC (.int 5))))) (dSeq (dIfS (dT (d2 dIsN (dCall den_law_room (aCons (dVar 5) (aCons (dVar 4) aNil))) (dC .non))) (dSet 5 (dC (.str "runs"))) dNext) (dSeq (dSet 6 (dCall (one bList) (aCons (dVar 4) aNil))) (dSeq (dSet 7 (dCall den_packed (aCons (dVar 5) (aCons (dVar 6) aNil)))) (dSeq (dIfS (pOr (dT (d2 dNe (dVar 7) (dCall den_law_packed (aCons (dVar 5) (aCons (dVar 4) aNil))))) (pOr (dT (d2 dNe (dCall (one bLen) (aCons (dVar 7) aNil)) (dCall den_room (aCons (dVar 5) (aCons (dVar 6) aNil))))) (dT (d2 dNe (dVar 6) (dVar 4))))) (dRet .flat (dC (.bl false))) dNext) (dSeq (dSet 1 (d2 dAdd (dVar 1) (dVar 7))) (dAppend 2 (dTup (aCons (dVar 5) (aCons (dVar 4) aNil)))))))))))) (dSeq (dFor (iRng (aCons (dC (.int 2)) aNil) rng1) (setN 8) (dTell 9 den_unpacked (aCons (dVar 1) aNil) (pOr (dT (d2 dNe (dVar 9) (dVar 2))) (pNot (dT (dCall (one bAll) (aCons (dComp (iLst (dVar 9)) (setN 10) pYes (dAndV (d1 (bIsi "tuple") (dVar 10)) (d1 (bIsi "list") (d2 dIx (dVar 10) (dC (.int 1)))))) aNil))))) (dRet .flat (dC (.bl false))))) (dRet .flat (dC (.bl true)))))))
def tbl_SIZES : List (Str × Option Int) := [("all", some 1), ("none", some 1), ("is", some 2), ("below", some 2), ("above", some 2), ("among", some 2), ("not", some 2), ("both", some 3), ("either", some 3), ("nots", none), ("alls", none), ("", none), ("iss", none)]
def den_look_question : Nat → List Dt → R Dt | 0 => fun _ => none | n + 1 => dFn .flat 1 (dSeq (dIfS (pOr (dT (d2 dGt (dVar 1) (dC (.int 6)))) (dT (d2 dNe (d1 (dGetW tbl_SIZES) (d2 dIx (dVar 0) (dC (.int 0)))) (dCall (one bLen) (aCons (dVar 0) aNil))))) (dRaise 5) dNext) (dIfS (dT (d2 dIn (d2 dIx (dVar 0) (dC (.int 0))) (dTup (aCons (dC (.str "not")) (aCons (dC (.str "both")) (aCons (dC (.str "either")) aNil)))))) (dFor (iTup (dSl sliceF (dVar 0) (oSome (dC (.int 1))) oNone)) (setN 2) (dDrop (dCall (den_look_question n) (aCons (dVar 2) (aCons (d2 dAdd (dVar 1) (dC (.int 1))) aNil))))) dNext))
def den_holds : Nat → List Dt → R Dt | 0 => fun _ => none | n + 1 => dFn .flat 1 (dSeq (dSet 2 (d2 dIx (dVar 0) (dC (.int 0)))) (dSeq (dIfS (dT (d2 dEq (dVar 2) (dC (.str "not")))) (dRet .flat (d1 dNot (dCall (den_holds n) (aCons (d2 dIx (dVar 0) (dC (.int 1))) (aCons (dVar 1) aNil))))) dNext) (dSeq (dIfS (dT (d2 dEq (dVar 2) (dC (.str "both")))) (dRet .flat (dAndV (dCall (den_holds n) (aCons (d2 dIx (dVar 0) (dC (.int 1))) (aCons (dVar 1) aNil))) (dCall (den_holds n) (aCons (d2 dIx (dVar 0) (dC (.int 2))) (aCons (dVar 1) aNil))))) dNext) (dSeq (dIfS (dT (d2 dEq (dVar 2) (dC (.str "either")))) (dRet .flat (dOrV (dCall (den_holds n) (aCons (d2 dIx (dVar 0) (dC (.int 1))) (aCons (dVar 1) aNil))) (dCall (den_holds n) (aCons (d2 dIx (dVar 0) (dC (.int 2))) (aCons (dVar 1) aNil))))) dNext) (dSeq (dIfS (dT (d2 dIn (dVar 2) (dTup (aCons (dC (.str "all")) (aCons (dC (.str "none")) aNil))))) (dRet .flat (dOrV (d2 dEq (dVar 2) (dC (.str "all"))) (d2 dIsN (dVar 1) (dC .non)))) dNext) (dSeq (dIfS (dT (d2 dIsN (dVar 1) (dC .non))) (dRet .flat (dC (.bl false))) dNext) (dSeq (dIfS (dT (d2 dEq (dVar 2) (dC (.str "among")))) (dRet .flat (d2 dIn (dVar 1) (d2 dIx (dVar 0) (dC (.int 1))))) dNext) (dSeq (dIfS (dT (d2 dEq (dVar 2) (dC (.str "is")))) (dRet .flat (d2 dEq (dVar 1) (d2 dIx (dVar 0) (dC (.int 1))))) dNext) (dRet .flat (dIf (dT (d2 dEq (dVar 2) (dC (.str "below")))) (d2 dLt (dVar 1) (d2 dIx (dVar 0) (dC (.int 1)))) (d2 dGt (dVar 1) (d2 dIx (dVar 0) (dC (.int 1))))))))))))))
def den_best_kind : List Dt → R Dt := dFn .flat 3 (dSeq (dSet 1 (dC .non)) (dSeq (dFor (iTup (dC (.tup ((["plain", "runs", "book", "base", "steps"] : List Str).map Dt.str)))) (setN 2) (dSeq (dSet 3 (dCall den_room (aCons (dVar 2) (aCons (dVar 0) aNil)))) (dIfS (pAnd (dT (d2 dNotN (dVar 3) (dC .non))) (pOr (dT (d2 dIsN (dVar 1) (dC .non))) (dT (d2 dLt (dVar 3) (d2 dIx (dVar 1) (dC (.int 0))))))) (dSet 1 (dTup (aCons (dVar 3) (aCons (dVar 2) aNil)))) dNext))) (dRet .flat (d2 dIx (dVar 1) (dC (.int 1))))))
def den_least_room : List Dt → R Dt := dFn .flat 0 (dRet .flat (dCall den_room (aCons (dCall den_best_kind (aCons (dVar 0) aNil)) (aCons (dVar 0) aNil))))
def den_look_column : List Dt → R Dt := dFn .flat 0 (dSeq (dIfS (dT (d2 dGt (dCall (one bLen) (aCons (dVar 0) aNil)) (dC (.int 64)))) (dRaise 1) dNext) (dIfS (dTr (dVar 0)) (dDrop (dCall den_look_values (aCons (dVar 0) aNil))) dNext))
def den_prices : List Dt → R Dt := dFn .own 3 (dSeq (dDrop (dCall den_look_column (aCons (dVar 0) aNil))) (dSeq (dSet 1 (dLst (aCons (dC (.int 0)) aNil))) (dSeq (dFor (iRng (aCons (dC (.int 1)) (aCons (d2 dAdd (dCall (one bLen) (aCons (dVar 0) aNil)) (dC (.int 1))) aNil)) rng2) (setN 2) (dAppend 1 (dCall (one bMinL) (aCons (dComp (iRng (aCons (dVar 2) aNil) rng1) (setN 3) pYes (d2 dAdd (d2 dIx (dVar 1) (dVar 3)) (dCall den_least_room (aCons (dSl sliceL (dVar 0) (oSome (dVar 3)) (oSome (dVar 2))) aNil)))) aNil)))) (dRet .own (dVar 1)))))
def den_cuts : List Dt → R Dt := dFn .own 4 (dSeq (dSet 1 (dLst aNil)) (dSeq (dSet 2 (dCall den_prices (aCons (dVar 0) aNil))) (dSeq (dSet 3 (dCall (one bLen) (aCons (dVar 0) aNil))) (dSeq (dWhile 100 (dT (d2 dGt (dVar 3) (dC (.int 0)))) (dSeq (dInsert 1 (dC (.int 0)) (dVar 3)) (dSeq (dSet 4 (dC (.int 0))) (dSeq (dWhile 100 (dT (d2 dGt (d2 dAdd (d2 dIx (dVar 2) (dVar 4)) (dCall den_least_room (aCons (dSl sliceL (dVar 0) (oSome (dVar 4)) (oSome (dVar 3))) aNil))) (d2 dIx (dVar 2) (dVar 3)))) (dSet 4 (d2 dAdd (dVar 4) (dC (.int 1))))) (dSet 3 (dVar 4)))))) (dRet .own (dVar 1))))))
def den_blocks : List Dt → R Dt := dFn .own 4 (dSeq (dSet 1 (dLst aNil)) (dSeq (dSet 2 (dC (.int 0))) (dSeq (dFor (iLst (dCall den_cuts (aCons (dVar 0) aNil))) (setN 3) (dSeq (dSet 4 (dSl sliceL (dVar 0) (oSome (dVar 2)) (oSome (dVar 3)))) (dSeq (dAppend 1 (dTup (aCons (dCall den_best_kind (aCons (dVar 4) aNil)) (aCons (dVar 4) aNil)))) (dSet 2 (dVar 3))))) (dRet .own (dVar 1)))))
def den_Plain_init : List Dt → R Dt := dFnM 0 (dSeq (dAttr 0 0 0 (dVar 1)) (dSeq (dAttr 0 0 1 (dCall (one bLen) (aCons (dVar 2) aNil))) (dSeq (dAttr 0 0 2 (dIf (dT (d2 dEq (dVar 1) (dC (.str "base")))) (dCall den_base_of (aCons (dVar 2) aNil)) (d2 dIx (dVar 2) (dC (.int 0))))) (dSeq (dAttr 0 0 3 (dCall (one bList) (aCons (dVar 2) aNil))) (dIfS (dT (d2 dEq (dVar 1) (dC (.str "base")))) (dAttr 0 0 3 (dCall den_base_codes (aCons (dVar 2) aNil))) (dIfS (dT (d2 dEq (dVar 1) (dC (.str "steps")))) (dAttr 0 0 3 (dCall den_step_codes (aCons (dVar 2) aNil))) dNext))))))
def den_Plain_values_of : List Dt → R Dt := dFn .ownf 2 (dSeq (dIfS (dT (d2 dEq (d1 (gAttr 0 0) (dVar 0)) (dC (.str "plain")))) (dRet .ownf (dCall (one bList) (aCons (d1 (gAttr 0 3) (dVar 0)) aNil))) dNext) (dSeq (dIfS (dT (d2 dEq (d1 (gAttr 0 0) (dVar 0)) (dC (.str "base")))) (dRet .ownf (dComp (iLst (d1 (gAttr 0 3) (dVar 0))) (setN 2) pYes (dIf (dT (d2 dEq (dVar 2) (dC (.int 0)))) (dC .non) (d2 dSub (d2 dAdd (d1 (gAttr 0 2) (dVar 0)) (dVar 2)) (dC (.int 1)))))) dNext) (dSeq (dSet 1 (dLst (aCons (d1 (gAttr 0 2) (dVar 0)) aNil))) (dSeq (dFor (iLst (d1 (gAttr 0 3) (dVar 0))) (setN 2) (dAppend 1 (d2 dAdd (d2 dIx (dVar 1) (d1 dNeg (dC (.int 1)))) (dIf (dT (d2 dEq (d2 dMod (dVar 2) (dC (.int 2))) (dC (.int 0)))) (d2 dFdiv (dVar 2) (dC (.int 2))) (d2 dFdiv (d1 dNeg (d2 dAdd (dVar 2) (dC (.int 1)))) (dC (.int 2))))))) (dRet .ownf (dVar 1))))))
def den_Plain_answers : List Dt → R Dt := dFn .ownf 1 (dRet .ownf (dComp (iLst (dMeth 0 den_Plain_values_of (dVar 0) aNil)) (setN 2) pYes (dCall (den_holds 12) (aCons (dVar 1) (aCons (dVar 2) aNil)))))
def den_Runs_init : List Dt → R Dt := dFnM 0 (dSeq (dAttr 0 1 0 (dVar 1)) (dSeq (dAttr 0 1 1 (dCall (one bLen) (aCons (dVar 2) aNil))) (dAttr 0 1 2 (dCall den_runs_of (aCons (dVar 2) aNil)))))
def den_Runs_values_of : List Dt → R Dt := dFn .ownf 3 (dSeq (dSet 1 (dLst aNil)) (dSeq (dFor (iLst (d1 (gAttr 1 2) (dVar 0))) (setT2 2 3) (dExtend 1 (d2 dRep (dLst (aCons (dVar 2) aNil)) (dVar 3)))) (dRet .ownf (dVar 1))))
def den_Runs_answers : List Dt → R Dt := dFn .ownf 3 (dSeq (dSet 2 (dLst aNil)) (dSeq (dFor (iLst (d1 (gAttr 1 2) (dVar 0))) (setT2 3 4) (dExtend 2 (d2 dRep (dLst (aCons (dCall (den_holds 12) (aCons (dVar 1) (aCons (dVar 3) aNil))) aNil)) (dVar 4)))) (dRet .ownf (dVar 2))))
def den_Book_init : List Dt → R Dt := dFnM 1 (dSeq (dAttr 0 2 0 (dVar 1)) (dSeq (dAttr 0 2 1 (dCall (one bLen) (aCons (dVar 2) aNil))) (dSeq (dAttr 0 2 2 (dCall den_book_of (aCons (dVar 2) aNil))) (dAttr 0 2 3 (dComp (iLst (dVar 2)) (setN 3) pYes (dML mIndex (d1 (gAttr 2 2) (dVar 0)) (dVar 3)))))))
def den_Book_values_of : List Dt → R Dt := dFn .ownf 1 (dRet .ownf (dComp (iLst (d1 (gAttr 2 3) (dVar 0))) (setN 1) pYes (d2 dIx (d1 (gAttr 2 2) (dVar 0)) (dVar 1))))
def den_Book_answers : List Dt → R Dt := dFn .ownf 3 (dSeq (dSet 2 (dComp (iLst (d1 (gAttr 2 2) (dVar 0))) (setN 3) pYes (dCall (den_holds 12) (aCons (dVar 1) (aCons (dVar 3) aNil))))) (dRet .ownf (dComp (iLst (d1 (gAttr 2 3) (dVar 0))) (setN 4) pYes (d2 dIx (dVar 2) (dVar 4)))))
def den_block_of : List Dt → R Dt := dFn .fz 0 (dSeq (dIfS (dT (d2 dEq (dVar 0) (dC (.str "runs")))) (dRet .fz (dNew 1 3 den_Runs_init (aCons (dVar 0) (aCons (dVar 1) aNil)))) dNext) (dSeq (dIfS (dT (d2 dEq (dVar 0) (dC (.str "book")))) (dRet .fz (dNew 2 4 den_Book_init (aCons (dVar 0) (aCons (dVar 1) aNil)))) dNext) (dRet .fz (dNew 0 4 den_Plain_init (aCons (dVar 0) (aCons (dVar 1) aNil))))))
def den_Column_begin : List Dt → R Dt := dFnL 2 (dSeqL (dDrop (dCall den_look_column (aCons (dVar 1) aNil))) (dAttrL 0 3 0 (dComp (iLst (dCall den_blocks (aCons (dVar 1) aNil))) (setT2 2 3) pYes (dCall den_block_of (aCons (dVar 2) (aCons (dVar 3) aNil))))))
def den_Column_init : List Dt → R Dt := dFnM 0 (dCallM 0 3 den_Column_begin (aCons (dCall (one bList) (aCons (dVar 1) aNil)) aNil))
def den_Column_size : List Dt → R Dt := dFn .flat 1 (dRet .flat (dCall (one bSum) (aCons (dComp (iLst (d1 (gAttr 3 0) (dVar 0))) (setN 1) pYes (dAlt 1 0 (d1 (gAttr 0 1) (dVar 1)) (dAlt 1 1 (d1 (gAttr 1 1) (dVar 1)) (d1 (gAttr 2 1) (dVar 1))))) aNil)))
def den_Column_told : List Dt → R Dt := dFn .ownf 2 (dSeq (dSet 1 (dLst aNil)) (dSeq (dFor (iLst (d1 (gAttr 3 0) (dVar 0))) (setN 2) (dExtend 1 (dAlt 2 0 (dMeth 0 den_Plain_values_of (dVar 2) aNil) (dAlt 2 1 (dMeth 1 den_Runs_values_of (dVar 2) aNil) (dMeth 2 den_Book_values_of (dVar 2) aNil))))) (dRet .ownf (dVar 1))))
def den_Column_kinds : List Dt → R Dt := dFn .own 1 (dRet .own (dComp (iLst (d1 (gAttr 3 0) (dVar 0))) (setN 1) pYes (dTup (aCons (dAlt 1 0 (d1 (gAttr 0 0) (dVar 1)) (dAlt 1 1 (d1 (gAttr 1 0) (dVar 1)) (d1 (gAttr 2 0) (dVar 1)))) (aCons (dAlt 1 0 (d1 (gAttr 0 1) (dVar 1)) (dAlt 1 1 (d1 (gAttr 1 1) (dVar 1)) (d1 (gAttr 2 1) (dVar 1)))) aNil)))))
def den_Column_bits : List Dt → R Dt := dFn .flat 1 (dRet .flat (dM mJoin (dC (.str "")) (dComp (iLst (d1 (gAttr 3 0) (dVar 0))) (setN 1) pYes (dCall den_packed (aCons (dAlt 1 0 (d1 (gAttr 0 0) (dVar 1)) (dAlt 1 1 (d1 (gAttr 1 0) (dVar 1)) (d1 (gAttr 2 0) (dVar 1)))) (aCons (dAlt 1 0 (dMeth 0 den_Plain_values_of (dVar 1) aNil) (dAlt 1 1 (dMeth 1 den_Runs_values_of (dVar 1) aNil) (dMeth 2 den_Book_values_of (dVar 1) aNil))) aNil))))))
def den_Column_need : List Dt → R Dt := dFn .flat 0 (dIfS (pNot (dT (d3 dLe dLt (dC (.int 0)) (dVar 1) (dVar 2)))) (dRaise 4) dNext)
def den_Column_value : List Dt → R Dt := dFn .flat 1 (dSeq (dDrop (dMeth 3 den_Column_need (dVar 0) (aCons (dVar 1) (aCons (dMeth 3 den_Column_size (dVar 0) aNil) aNil)))) (dSeq (dFor (iLst (d1 (gAttr 3 0) (dVar 0))) (setN 2) (dSeq (dIfS (dT (d2 dLt (dVar 1) (dAlt 2 0 (d1 (gAttr 0 1) (dVar 2)) (dAlt 2 1 (d1 (gAttr 1 1) (dVar 2)) (d1 (gAttr 2 1) (dVar 2)))))) (dRet .flat (d2 dIx (dAlt 2 0 (dMeth 0 den_Plain_values_of (dVar 2) aNil) (dAlt 2 1 (dMeth 1 den_Runs_values_of (dVar 2) aNil) (dMeth 2 den_Book_values_of (dVar 2) aNil))) (dVar 1))) dNext) (dSet 1 (d2 dSub (dVar 1) (dAlt 2 0 (d1 (gAttr 0 1) (dVar 2)) (dAlt 2 1 (d1 (gAttr 1 1) (dVar 2)) (d1 (gAttr 2 1) (dVar 2)))))))) (dRet .flat (dC .non))))
def den_Column_rows : List Dt → R Dt := dFn .ownf 5 (dSeq (dDrop (dCall (den_look_question 8) (aCons (dVar 1) (aCons (dC (.int 1)) aNil)))) (dSeq (dSet 2 (dLst aNil)) (dSeq (dSet 3 (dC (.int 0))) (dSeq (dFor (iLst (d1 (gAttr 3 0) (dVar 0))) (setN 4) (dSeq (dSet 5 (dAlt 4 0 (dMeth 0 den_Plain_answers (dVar 4) (aCons (dVar 1) aNil)) (dAlt 4 1 (dMeth 1 den_Runs_answers (dVar 4) (aCons (dVar 1) aNil)) (dMeth 2 den_Book_answers (dVar 4) (aCons (dVar 1) aNil))))) (dSeq (dExtend 2 (dComp (iRng (aCons (dAlt 4 0 (d1 (gAttr 0 1) (dVar 4)) (dAlt 4 1 (d1 (gAttr 1 1) (dVar 4)) (d1 (gAttr 2 1) (dVar 4)))) aNil) rng1) (setN 6) (dTr (d2 dIx (dVar 5) (dVar 6))) (d2 dAdd (dVar 3) (dVar 6)))) (dSet 3 (d2 dAdd (dVar 3) (dAlt 4 0 (d1 (gAttr 0 1) (dVar 4)) (dAlt 4 1 (d1 (gAttr 1 1) (dVar 4)) (d1 (gAttr 2 1) (dVar 4))))))))) (dRet .ownf (dVar 2))))))
def den_Column_put : List Dt → R Dt := dFnL 1 (dSeqL (dDrop (dMethR 0 3 1 den_Column_need (aCons (dVar 1) (aCons (d2 dAdd (dMethR 0 3 1 den_Column_size aNil) (dC (.int 1))) aNil)))) (dSeqL (dSet 3 (dMethR 0 3 1 den_Column_told aNil)) (dSeqL (dInsert 3 (dVar 1) (dVar 2)) (dCallL 0 3 den_Column_begin (aCons (dVar 3) aNil)))))
def den_Column_drop : List Dt → R Dt := dFnL 1 (dSeqL (dDrop (dMethR 0 3 1 den_Column_need (aCons (dVar 1) (aCons (dMethR 0 3 1 den_Column_size aNil) aNil)))) (dSeqL (dSet 2 (dMethR 0 3 1 den_Column_told aNil)) (dSeqL (dPop 2 (dVar 1)) (dCallL 0 3 den_Column_begin (aCons (dVar 2) aNil)))))
def den_Column_change : List Dt → R Dt := dFnL 1 (dSeqL (dDrop (dMethR 0 3 1 den_Column_need (aCons (dVar 1) (aCons (dMethR 0 3 1 den_Column_size aNil) aNil)))) (dSeqL (dSet 3 (dMethR 0 3 1 den_Column_told aNil)) (dSeqL (dPut 3 (dVar 2) (dVar 1)) (dCallL 0 3 den_Column_begin (aCons (dVar 3) aNil)))))
def den_column_of : List Dt → R Dt := dFn .fz 3 (dSeq (dSet 1 (dLst aNil)) (dSeq (dFor (iLst (dCall den_unpacked (aCons (dVar 0) aNil))) (setT2 2 3) (dExtend 1 (dVar 3))) (dRet .fz (dNew 3 1 den_Column_init (aCons (dVar 1) aNil)))))
def den_law_refusal : List Dt → R Dt := dFn .flat 1 (dSeq (dIfS (dT (d2 dIsN (dVar 0) (dC .non))) (dRet .flat (dC (.str "ok"))) dNext) (dSeq (dSet 1 (dLst (aCons (d1 (bIsE [1, 2, 3, 4, 5] 3) (dVar 0)) (aCons (d1 (bIsE [1, 2, 3, 4, 5] 5) (dVar 0)) (aCons (d1 (bIsE [1, 2, 3, 4, 5] 7) (dVar 0)) aNil))))) (dSeq (dSet 1 (d2 dCat (dVar 1) (dLst (aCons (d1 (bIsE [1, 2, 3, 4, 5] 8) (dVar 0)) (aCons (d1 (bIsE [1, 2, 3, 4, 5] 1) (dVar 0)) (aCons (d1 (bIsE [1, 2, 3, 4, 5] 6) (dVar 0)) aNil)))))) (dSeq (dSet 1 (d2 dCat (dVar 1) (dLst (aCons (d1 (bIsE [1, 2, 3, 4, 5] 2) (dVar 0)) (aCons (d1 (bIsE [1, 2, 3, 4, 5] 4) (dVar 0)) aNil))))) (dSeq (dIfS (pOr (dT (d2 dNe (dML mCount (dVar 1) (dC (.bl true))) (dC (.int 1)))) (pNot (dT (d1 (bIsVE [1, 2, 3, 4, 5]) (dVar 0))))) (dRet .flat (dC (.str "wrong"))) dNext) (dRet .flat (d2 dIx (dLst (aCons (dC (.str "bits")) (aCons (dC (.str "question")) (aCons (dC (.str "row")) (aCons (dC (.str "table")) (aCons (dC (.str "value")) (aCons (dC (.str "column")) (aCons (dC (.str "packing")) (aCons (dC (.str "norow")) aNil))))))))) (dML mIndex (dVar 1) (dC (.bl true))))))))))
def den_law_done : List Dt → R Dt := dFnM 2 (dSeq (dSet 4 (dC .non)) (dSeq (dTry [1, 2, 3, 4, 5] 4 (dIfS (dT (d2 dEq (dVar 1) (dC (.str "put")))) (dCallM 0 3 den_Column_put (aCons (dVar 2) (aCons (dVar 3) aNil))) (dIfS (dT (d2 dEq (dVar 1) (dC (.str "drop")))) (dCallM 0 3 den_Column_drop (aCons (dVar 2) aNil)) (dCallM 0 3 den_Column_change (aCons (dVar 2) (aCons (dVar 3) aNil)))))) (dRetM (dCall den_law_refusal (aCons (dVar 4) aNil)))))
def den_law_whole : List Dt → R Dt := dFn .flat 0 (dRet .flat (dAndV (d1 (bIsi "int") (dVar 0)) (d1 dNot (d1 (bIsi "bool") (dVar 0)))))
def den_law_best : List Dt → R Dt := dFn .fz 5 (dSeq (dSet 1 (dLst (aCons (dC (.str "plain")) (aCons (dC (.str "runs")) (aCons (dC (.str "book")) (aCons (dC (.str "base")) (aCons (dC (.str "steps")) aNil))))))) (dSeq (dSet 2 (dComp (iLst (dVar 1)) (setN 4) pYes (dCall den_law_room (aCons (dVar 4) (aCons (dVar 0) aNil))))) (dSeq (dSet 3 (dCall (one bMinL) (aCons (dComp (iLst (dVar 2)) (setN 5) (dT (d2 dNotN (dVar 5) (dC .non))) (dVar 5)) aNil))) (dRet .fz (dTup (aCons (d2 dIx (dVar 1) (dML mIndex (dVar 2) (dVar 3))) (aCons (dVar 3) aNil)))))))
def den_law_prices : List Dt → R Dt := dFn .own 3 (dSeq (dSet 1 (dLst (aCons (dC (.int 0)) aNil))) (dSeq (dFor (iRng (aCons (dC (.int 1)) (aCons (d2 dAdd (dCall (one bLen) (aCons (dVar 0) aNil)) (dC (.int 1))) aNil)) rng2) (setN 2) (dAppend 1 (dCall (one bMinL) (aCons (dComp (iRng (aCons (dVar 2) aNil) rng1) (setN 3) pYes (d2 dAdd (d2 dIx (dVar 1) (dVar 3)) (d2 dIx (dCall den_law_best (aCons (dSl sliceL (dVar 0) (oSome (dVar 3)) (oSome (dVar 2))) aNil)) (dC (.int 1))))) aNil)))) (dRet .own (dVar 1))))
def den_law_cuts : List Dt → R Dt := dFn .own 4 (dSeq (dSet 2 (dLst aNil)) (dSeq (dSet 3 (dCall (one bLen) (aCons (dVar 0) aNil))) (dSeq (dWhile 100 (dT (d2 dGt (dVar 3) (dC (.int 0)))) (dSeq (dSet 2 (d2 dCat (dLst (aCons (dVar 3) aNil)) (dVar 2))) (dSeq (dSet 4 (dComp (iRng (aCons (dVar 3) aNil) rng1) (setN 5) (dT (d2 dEq (d2 dAdd (d2 dIx (dVar 1) (dVar 5)) (d2 dIx (dCall den_law_best (aCons (dSl sliceL (dVar 0) (oSome (dVar 5)) (oSome (dVar 3))) aNil)) (dC (.int 1)))) (d2 dIx (dVar 1) (dVar 3)))) (dVar 5))) (dSet 3 (d2 dIx (dVar 4) (dC (.int 0))))))) (dRet .own (dVar 2)))))
def den_law_room_of : List Dt → R Dt := dFn .flat 2 (dSeq (dSet 2 (d2 dCat (dLst (aCons (dC (.int 0)) aNil)) (dVar 1))) (dRet .flat (dCall (one bSum) (aCons (dComp (iRng (aCons (dCall (one bLen) (aCons (dVar 1) aNil)) aNil) rng1) (setN 3) pYes (d2 dIx (dCall den_law_best (aCons (dSl sliceL (dVar 0) (oSome (d2 dIx (dVar 2) (dVar 3))) (oSome (d2 dIx (dVar 1) (dVar 3)))) aNil)) (dC (.int 1)))) aNil))))
def den_shows : List Dt → R Dt := dFn .flat 2 (dSeq (dDrop (dCall den_look_column (aCons (dVar 0) aNil))) (dSeq (dIfS (pOr (dT (d2 dNe (dCall (one bLen) (aCons (dVar 2) aNil)) (d2 dAdd (dCall (one bLen) (aCons (dVar 0) aNil)) (dC (.int 1))))) (pOr (dT (d2 dNe (d2 dIx (dVar 2) (dC (.int 0))) (dC (.int 0)))) (dT (d2 dNe (dIf (dTr (dVar 1)) (d2 dIx (dVar 1) (d1 dNeg (dC (.int 1)))) (dC (.int 0))) (dCall (one bLen) (aCons (dVar 0) aNil)))))) (dRet .flat (dC (.bl false))) dNext) (dSeq (dSet 3 (dC (.int 0))) (dSeq (dFor (iLst (dVar 1)) (setN 4) (dSeq (dIfS (pOr (pNot (dT (d3 dLt dLe (dVar 3) (dVar 4) (dCall (one bLen) (aCons (dVar 0) aNil))))) (dT (d2 dNe (d2 dIx (dVar 2) (dVar 4)) (d2 dAdd (d2 dIx (dVar 2) (dVar 3)) (dCall den_least_room (aCons (dSl sliceL (dVar 0) (oSome (dVar 3)) (oSome (dVar 4))) aNil)))))) (dRet .flat (dC (.bl false))) dNext) (dSet 3 (dVar 4)))) (dSeq (dFor (iRng (aCons (dC (.int 1)) (aCons (d2 dAdd (dCall (one bLen) (aCons (dVar 0) aNil)) (dC (.int 1))) aNil)) rng2) (setN 4) (dFor (iRng (aCons (dVar 4) aNil) rng1) (setN 3) (dIfS (dT (d2 dGt (d2 dIx (dVar 2) (dVar 4)) (d2 dAdd (d2 dIx (dVar 2) (dVar 3)) (dCall den_least_room (aCons (dSl sliceL (dVar 0) (oSome (dVar 3)) (oSome (dVar 4))) aNil))))) (dRet .flat (dC (.bl false))) dNext))) (dRet .flat (dC (.bl true))))))))
def den_tight : List Dt → R Dt := dFn .flat 2 (dRet .flat (dM mJoin (dC (.str "")) (dComp (iLst (dCall den_blocks (aCons (dVar 0) aNil))) (setT2 1 2) pYes (dCall den_packed (aCons (dVar 1) (aCons (dVar 2) aNil))))))
def den_Plain_tallies : List Dt → R Dt := dFn .own 1 (dRet .own (dComp (iLst (dMeth 0 den_Plain_values_of (dVar 0) aNil)) (setN 2) (dT (dCall (den_holds 12) (aCons (dVar 1) (aCons (dVar 2) aNil)))) (dTup (aCons (dVar 2) (aCons (dC (.int 1)) aNil)))))
def den_Runs_tallies : List Dt → R Dt := dFn .own 2 (dRet .own (dComp (iLst (d1 (gAttr 1 2) (dVar 0))) (setT2 2 3) (dT (dCall (den_holds 12) (aCons (dVar 1) (aCons (dVar 2) aNil)))) (dTup (aCons (dVar 2) (aCons (dVar 3) aNil)))))
def den_Book_tallies : List Dt → R Dt := dFn .own 2 (dSeq (dSet 2 (dLst aNil)) (dSeq (dFor (iRng (aCons (dCall (one bLen) (aCons (d1 (gAttr 2 2) (dVar 0)) aNil)) aNil) rng1) (setN 3) (dIfS (dT (dCall (den_holds 12) (aCons (dVar 1) (aCons (d2 dIx (d1 (gAttr 2 2) (dVar 0)) (dVar 3)) aNil)))) (dAppend 2 (dTup (aCons (d2 dIx (d1 (gAttr 2 2) (dVar 0)) (dVar 3)) (aCons (dML mCount (d1 (gAttr 2 3) (dVar 0)) (dVar 3)) aNil)))) dNext)) (dRet .own (dVar 2))))
def den_Column_tallies : List Dt → R Dt := dFn .own 2 (dSeq (dDrop (dCall (den_look_question 8) (aCons (dVar 1) (aCons (dC (.int 1)) aNil)))) (dSeq (dSet 2 (dLst aNil)) (dSeq (dFor (iLst (d1 (gAttr 3 0) (dVar 0))) (setN 3) (dExtend 2 (dAlt 3 0 (dMeth 0 den_Plain_tallies (dVar 3) (aCons (dVar 1) aNil)) (dAlt 3 1 (dMeth 1 den_Runs_tallies (dVar 3) (aCons (dVar 1) aNil)) (dMeth 2 den_Book_tallies (dVar 3) (aCons (dVar 1) aNil)))))) (dRet .own (dVar 2)))))
def den_Column_how_many : List Dt → R Dt := dFn .flat 2 (dRet .flat (dCall (one bSum) (aCons (dComp (iLst (dMeth 3 den_Column_tallies (dVar 0) (aCons (dVar 1) aNil))) (setT2 2 3) pYes (dVar 3)) aNil)))
def den_Column_total : List Dt → R Dt := dFn .flat 2 (dRet .flat (dCall (one bSum) (aCons (dComp (iLst (dMeth 3 den_Column_tallies (dVar 0) (aCons (dVar 1) aNil))) (setT2 2 3) (dT (d2 dNotN (dVar 2) (dC .non))) (d2 dMul (dVar 2) (dVar 3))) aNil)))
def den_Column_ends : List Dt → R Dt := dFn .fz 3 (dSeq (dSet 2 (dComp (iLst (dMeth 3 den_Column_tallies (dVar 0) (aCons (dVar 1) aNil))) (setT2 3 4) (dT (d2 dNotN (dVar 3) (dC .non))) (dVar 3))) (dRet .fz (dIf (dTr (dVar 2)) (dTup (aCons (dCall (one bMinL) (aCons (dVar 2) aNil)) (aCons (dCall (one bMaxL) (aCons (dVar 2) aNil)) aNil))) (dC .non))))
end VL

set_option Elab.async false
set_option linter.all false
set_option maxRecDepth 100000
set_option maxHeartbeats 1000000
namespace VL
open PySem PySem.Spec PyProof.Rows L2
/-! ### the law's own numbers -/
def cellN (ns : List Int) (k : Int) : Int := if ns.isEmpty then 0 else (atI ns (k % ns.length)).getD 0
def mixN (ns : List Int) (k : Int) : Int :=
  ((cellN ns k + 104729 * (k + 1)) % 4294967291 * 48271 % 4294967279 / 64 * 69621 + (cellN ns k + 104729 * (k + 1)) % 4294967291 * 48271 % 4294967279) % 4294967231
theorem mixN_lo (ns : List Int) (k : Int) : 0 ≤ mixN ns k := Int.emod_nonneg _ (by decide)
theorem mixN_hi (ns : List Int) (k : Int) : mixN ns k < 4294967231 := Int.emod_lt_of_pos _ (by decide)
theorem den_cell (ns : List Int) (k : Int) : den_law_cell [.scr ns, .int k] = rok (.int (cellN ns k)) := by
  cases ns with
  | nil => simp [den_law_cell, dFn, cellN, retC, isFlat]
  | cons x xs =>
    have hp : (0 : Int) < ((x :: xs).length : Int) := by simp
    obtain ⟨j, hj⟩ := Int.eq_ofNat_of_zero_le (Int.emod_nonneg k (Int.ne_of_gt hp))
    have hlt := Int.emod_lt_of_pos k hp
    have hb : j < (x :: xs).length := by omega
    have e : atI (x :: xs) (k % ((x :: xs).length : Int)) = some ((x :: xs)[j]) := by
      rw [hj, atI_nat, List.getElem?_eq_getElem hb]
    unfold cellN
    rw [e]
    simp only [den_law_cell, dFn, ev_Seq, ev_IfS, ev_Tr, ev_var0, ev_vars, rbind_ok, ev_truS, List.isEmpty_cons, Bool.not_false, if_true, ev_RetF, ev_d2, ev_Call, ev_aCons, ev_aNil, ev_one, ev_lenS, List.cons_append, List.nil_append, ev_mod _ _ hp, ev_ixS, e, Option.map_some, isFlat_int, rbind_ok', Option.getD_some, Bool.false_eq_true, if_false, List.replicate]
theorem den_mix (ns : List Int) (k : Int) (h : -(2 ^ 60) < k ∧ k < 2 ^ 60) : den_law_mix [.scr ns, .int k] = rok (.int (mixN ns k)) := by
  simp only [den_law_mix, dFn, ev_Seq, ev_Set, ev_d2, ev_Call, ev_aCons, ev_aNil, ev_var0, ev_vars, rbind_ok, den_cell, ev_C, ev_add, List.cons_append, List.nil_append, List.replicate, List.set, ev_RetF, isFlat_int, if_true,
    ev_mulL 104729 _ (by decide), ev_mod _ 4294967291 (by decide), ev_mod _ 4294967279 (by decide), ev_mod _ 4294967231 (by decide), ev_mulR _ 48271 (by decide), ev_mulR _ 69621 (by decide), ev_fdiv _ 64 (by decide)]
  rfl

def okV (o : Option Int) : Prop := ∀ i, o = some i → -4000000 ≤ i ∧ i ≤ 4000000
theorem den_value (ns : List Int) (k : Int) (h : -(2 ^ 60) < k ∧ k < 2 ^ 60) : ∃ o, den_law_value [.scr ns, .int k] = rok (OI o) ∧ okV o := by
  have hlo := mixN_lo ns k
  generalize hm : mixN ns k = m at hlo
  have e : den_law_value [.scr ns, .int k] = rbind ((atI ([.int 0, .int 1, .int (-1), .int 5, .int 4000000, .int (-4000000), .non, .int (m / 16 % 9), .int (m / 16 % 300 - 150), .int (m / 16 % 8000001 - 4000000)] : List Dt) (m % 10)).map Except.ok) fun d => if isFlat d = true then rok d else none := by
    simp only [den_law_value, dFn, ev_Seq, ev_Set, ev_d2, ev_d1, ev_Call, ev_aCons, ev_aNil, ev_var0, ev_vars, rbind_ok, den_mix _ _ h, hm, ev_C, ev_add, ev_neg, ev_sub, ev_Lst, List.cons_append, List.nil_append, List.replicate, List.set, ev_RetF,
      ev_mod _ 9 (by decide), ev_mod _ 300 (by decide), ev_mod _ 10 (by decide), ev_mod _ 8000001 (by decide), ev_fdiv _ 16 (by decide), List.length_cons, List.length_nil, Nat.reduceAdd, Nat.reduceLeDiff, if_true, ev_cat, ev_ixL]
    rcases (atI ([.int 0, .int 1, .int (-1), .int 5, .int 4000000, .int (-4000000), .non, .int (m / 16 % 9), .int (m / 16 % 300 - 150), .int (m / 16 % 8000001 - 4000000)] : List Dt) (m % 10)) with _ | d
    · rfl
    · show rbind (if isFlat d = true then rok (Fl.rt d) else none) _ = if isFlat d = true then rok d else none
      by_cases c : isFlat d = true
      · rw [if_pos c, if_pos c]; rfl
      · rw [if_neg c, if_neg c]; rfl
  rw [e]
  have c : m % 10 = 0 ∨ m % 10 = 1 ∨ m % 10 = 2 ∨ m % 10 = 3 ∨ m % 10 = 4 ∨ m % 10 = 5 ∨ m % 10 = 6 ∨ m % 10 = 7 ∨ m % 10 = 8 ∨ m % 10 = 9 := by omega
  rcases c with c | c | c | c | c | c | c | c | c | c <;> rw [c]
  · exact ⟨some 0, rfl, by intro i e; cases e; decide⟩
  · exact ⟨some 1, rfl, by intro i e; cases e; decide⟩
  · exact ⟨some (-1), rfl, by intro i e; cases e; decide⟩
  · exact ⟨some 5, rfl, by intro i e; cases e; decide⟩
  · exact ⟨some 4000000, rfl, by intro i e; cases e; decide⟩
  · exact ⟨some (-4000000), rfl, by intro i e; cases e; decide⟩
  · exact ⟨none, rfl, by intro i e; cases e⟩
  · exact ⟨some _, rfl, by intro i e; cases e; omega⟩
  · exact ⟨some _, rfl, by intro i e; cases e; omega⟩
  · exact ⟨some _, rfl, by intro i e; cases e; omega⟩
/-- a while with a measure -/
theorem while_inv {p : List Dt → R Bool} {s : List Dt → R Fl} (I : Nat → List Dt → Prop) (J : List Dt → Prop) : ∀ (n m : Nat) (ρ : List Dt), m < n → I m ρ →
    (∀ m ρ, I m ρ → (p ρ = rok false ∧ J ρ) ∨ (p ρ = rok true ∧ ∃ ρ' m', s ρ = rok (.nx ρ') ∧ m' < m ∧ I m' ρ')) → ∃ ρ', dWhile n p s ρ = rok (.nx ρ') ∧ J ρ'
  | 0, m, ρ, h, _, _ => by omega
  | n + 1, m, ρ, h, hi, k => by
    rcases k m ρ hi with ⟨e, j⟩ | ⟨e, ρ', m', e2, hl, hi'⟩
    · exact ⟨ρ, by rw [dWhile, e]; rfl, j⟩
    · obtain ⟨ρ2, e3, j⟩ := while_inv I J n m' ρ' (by omega) hi' k
      exact ⟨ρ2, by rw [dWhile, e, rbind_ok, if_pos rfl, e2, rbind_ok]; exact e3, j⟩
end VL

set_option Elab.async false
set_option linter.all false
set_option maxRecDepth 100000
set_option maxHeartbeats 1000000
namespace VL
open PySem PySem.Spec PyProof.Rows L2
theorem len_last {α : Type} (L : List α) (h : L ≠ []) : ∃ l a, L = l ++ [a] := ⟨L.dropLast, L.getLast h, (List.dropLast_concat_getLast h).symm⟩
/-- near the last one -/
theorem way1 (s k mo : Dt) (L : List (Option Int)) (w n : Int) (o : Option Int) (hL : ∀ o ∈ L, okV o) (ho : okV o) :
    ∃ o', okV o' ∧ dIfS (pAnd (dT (d2 dEq (dVar 4) (dC (.int 1)))) (pAnd (dTr (dVar 3)) (dT (d2 dNotN (d2 dIx (dVar 3) (d1 dNeg (dC (.int 1)))) (dC .non))))) (dSet 6 (dCall (two bMax2) (aCons (d1 dNeg (dC (.int 4000000))) (aCons (dCall (two bMin2) (aCons (dC (.int 4000000)) (aCons (d2 dSub (d2 dAdd (d2 dIx (dVar 3) (d1 dNeg (dC (.int 1)))) (d2 dMod (d2 dFdiv (dVar 5) (dC (.int 16))) (dC (.int 5)))) (dC (.int 1))) aNil))) aNil)))) dNext
      [s, k, mo, .lst (L.map OI), .int w, .int n, OI o] = rok (.nx [s, k, mo, .lst (L.map OI), .int w, .int n, OI o']) := by
  by_cases hw : w = 1
  · by_cases hL0 : L = []
    · subst hL0
      exact ⟨o, ho, by simp [hw]⟩
    · obtain ⟨l, a, rfl⟩ := len_last L hL0
      have e : atI ((l ++ [a]).map OI) (-1) = some (OI a) := by rw [atI_OI, atI_last]; rfl
      have e0 : ((l ++ [a]).map OI).isEmpty = false := by simp
      cases a with
      | none =>
        refine ⟨o, ho, ?_⟩
        simp only [ev_IfS, ev_pAnd, ev_T, ev_d2, ev_vars, ev_var0, ev_C, rbind_ok, ev_eqI, hw, decide_true, ev_dBool, if_true, ev_Tr, ev_truL, e0, Bool.not_false, ev_d1, ev_neg, ev_ixL, e, Option.map_some, rbind_ok', ev_notN, OI_none, isNon_non, Bool.not_true, Bool.false_eq_true, if_false, ev_Next]
      | some x =>
        have hx := hL (some x) (by simp) x rfl
        refine ⟨some (if (if x + n / 16 % 5 - 1 < 4000000 then x + n / 16 % 5 - 1 else 4000000) > -4000000 then (if x + n / 16 % 5 - 1 < 4000000 then x + n / 16 % 5 - 1 else 4000000) else -4000000), ?_, ?_⟩
        · intro i e
          injection e with e
          subst e
          split <;> split <;> omega
        · simp only [ev_IfS, ev_pAnd, ev_T, ev_d2, ev_vars, ev_var0, ev_C, rbind_ok, ev_eqI, hw, decide_true, ev_dBool, if_true, ev_Tr, ev_truL, e0, Bool.not_false, ev_d1, ev_neg, ev_ixL, e, Option.map_some, rbind_ok', ev_notN, OI_some, isNon_int, ev_Set, ev_Call, ev_aCons, ev_aNil, ev_two, ev_min2, ev_max2, ev_sub, ev_add, ev_mod _ 5 (by decide), ev_fdiv _ 16 (by decide), List.set]
  · exact ⟨o, ho, by simp [hw]⟩
/-- one of those before -/
theorem way2 (s k mo : Dt) (L : List (Option Int)) (w n : Int) (o : Option Int) (hn : 0 ≤ n) (hL : ∀ o ∈ L, okV o) (ho : okV o) :
    ∃ o', okV o' ∧ dIfS (pAnd (dT (d2 dEq (dVar 4) (dC (.int 2)))) (pAnd (dTr (dVar 3)) (dT (d2 dGt (d2 dMod (dVar 5) (dC (.int 3))) (dC (.int 0)))))) (dSet 6 (d2 dIx (dVar 3) (d2 dMod (d2 dFdiv (dVar 5) (dC (.int 16))) (dCall (one bLen) (aCons (dVar 3) aNil))))) dNext
      [s, k, mo, .lst (L.map OI), .int w, .int n, OI o] = rok (.nx [s, k, mo, .lst (L.map OI), .int w, .int n, OI o']) := by
  by_cases hw : w = 2
  · by_cases hL0 : L = []
    · subst hL0
      exact ⟨o, ho, by simp [hw]⟩
    · have e0 : (L.map OI).isEmpty = false := by cases L <;> simp at hL0 ⊢
      have hp : (0 : Int) < ((L.map OI).length : Int) := by cases L <;> simp at hL0 ⊢ <;> omega
      obtain ⟨a, e, ha⟩ := atI_some L (n / 16 % ((L.map OI).length : Int)) (Int.emod_nonneg _ (by omega)) (by have := Int.emod_lt_of_pos (n / 16) hp; rw [List.length_map] at this ⊢; exact this)
      have e1 : atI (L.map OI) (n / 16 % ((L.map OI).length : Int)) = some (OI a) := by rw [atI_OI, e]; rfl
      by_cases h3 : 0 < n % 3
      · refine ⟨a, hL a ha, ?_⟩
        simp only [ev_IfS, ev_pAnd, ev_T, ev_d2, ev_vars, ev_var0, ev_C, rbind_ok, ev_eqI, hw, decide_true, ev_dBool, if_true, ev_Tr, ev_truL, e0, Bool.not_false, ev_ixL, e1, Option.map_some, rbind_ok', ev_gt, ev_mod _ 3 (by decide), h3, ev_Set, ev_Call, ev_aCons, ev_aNil, ev_one, ev_lenL, ev_mod _ _ hp, ev_fdiv _ 16 (by decide), List.set]
      · refine ⟨o, ho, ?_⟩
        simp only [ev_IfS, ev_pAnd, ev_T, ev_d2, ev_vars, ev_var0, ev_C, rbind_ok, ev_eqI, hw, decide_true, ev_dBool, if_true, ev_Tr, ev_truL, e0, Bool.not_false, rbind_ok', ev_gt, ev_mod _ 3 (by decide), h3, decide_false, Bool.false_eq_true, if_false, ev_Next]
  · exact ⟨o, ho, by simp [hw]⟩
/-- the new value, once or more often -/
theorem way3 (s k mo : Dt) (L : List (Option Int)) (w n : Int) (o : Option Int) (hn : 0 ≤ n) (hl : L.length ≤ 1000) :
    ∃ j : Nat, 1 ≤ j ∧ j ≤ 7 ∧ dSet 3 (d2 dCat (dVar 3) (d2 dRep (dLst (aCons (dVar 6) aNil)) (dIf (dT (d2 dEq (dVar 4) (dC (.int 3)))) (d2 dIx (dLst (aCons (dC (.int 1)) (aCons (dC (.int 1)) (aCons (dC (.int 3)) (aCons (dC (.int 7)) aNil))))) (d2 dMod (d2 dFdiv (dVar 5) (dC (.int 4096))) (dC (.int 4)))) (dC (.int 1)))))
      [s, k, mo, .lst (L.map OI), .int w, .int n, OI o] = rok (.nx [s, k, mo, .lst ((L ++ List.replicate j o).map OI), .int w, .int n, OI o]) := by
  have fl : ∀ j : Nat, (List.replicate j [OI o]).flatten = (List.replicate j o).map OI := fun j => by
    induction j with
    | zero => rfl
    | succ j ih => rw [List.replicate_succ, List.flatten_cons, ih, List.replicate_succ]; rfl
  have key : ∀ j : Nat, 1 ≤ j → j ≤ 7 → (dIf (dT (d2 dEq (dVar 4) (dC (.int 3)))) (d2 dIx (dLst (aCons (dC (.int 1)) (aCons (dC (.int 1)) (aCons (dC (.int 3)) (aCons (dC (.int 7)) aNil))))) (d2 dMod (d2 dFdiv (dVar 5) (dC (.int 4096))) (dC (.int 4)))) (dC (.int 1))) [s, k, mo, .lst (L.map OI), .int w, .int n, OI o] = rok (.int (j : Int)) → dSet 3 (d2 dCat (dVar 3) (d2 dRep (dLst (aCons (dVar 6) aNil)) (dIf (dT (d2 dEq (dVar 4) (dC (.int 3)))) (d2 dIx (dLst (aCons (dC (.int 1)) (aCons (dC (.int 1)) (aCons (dC (.int 3)) (aCons (dC (.int 7)) aNil))))) (d2 dMod (d2 dFdiv (dVar 5) (dC (.int 4096))) (dC (.int 4)))) (dC (.int 1))))) [s, k, mo, .lst (L.map OI), .int w, .int n, OI o] = rok (.nx [s, k, mo, .lst ((L ++ List.replicate j o).map OI), .int w, .int n, OI o]) := fun j h1 h7 e => by
    have c2 : (L.map OI).length + ((List.replicate j o).map OI).length ≤ 16777216 := by rw [List.length_map, List.length_map, List.length_replicate]; omega
    have e1 : d2 dRep (dLst (aCons (dVar 6) aNil)) (dIf (dT (d2 dEq (dVar 4) (dC (.int 3)))) (d2 dIx (dLst (aCons (dC (.int 1)) (aCons (dC (.int 1)) (aCons (dC (.int 3)) (aCons (dC (.int 7)) aNil))))) (d2 dMod (d2 dFdiv (dVar 5) (dC (.int 4096))) (dC (.int 4)))) (dC (.int 1))) [s, k, mo, .lst (L.map OI), .int w, .int n, OI o] = rok (.lst ((List.replicate j o).map OI)) :=
      Eq.trans (d2_to (lst1_to rfl) e) (Eq.trans (rep_to [OI o] j ⟨by rw [List.length_singleton]; omega, by omega⟩) (by rw [fl]))
    rw [List.map_append]
    exact set_to (Eq.trans (d2_to rfl e1) (cat_to _ _ c2))
  by_cases hw : w = 3
  · have c : n / 4096 % 4 = 0 ∨ n / 4096 % 4 = 1 ∨ n / 4096 % 4 = 2 ∨ n / 4096 % 4 = 3 := by omega
    have at_ : ∀ j : Nat, atI ([.int 1, .int 1, .int 3, .int 7] : List Dt) (n / 4096 % 4) = some (.int (j : Int)) → (dIf (dT (d2 dEq (dVar 4) (dC (.int 3)))) (d2 dIx (dLst (aCons (dC (.int 1)) (aCons (dC (.int 1)) (aCons (dC (.int 3)) (aCons (dC (.int 7)) aNil))))) (d2 dMod (d2 dFdiv (dVar 5) (dC (.int 4096))) (dC (.int 4)))) (dC (.int 1))) [s, k, mo, .lst (L.map OI), .int w, .int n, OI o] = rok (.int (j : Int)) := fun j e => by
      simp only [ev_If, ev_T, ev_d2, ev_vars, ev_var0, ev_C, rbind_ok, ev_eqI, hw, decide_true, ev_dBool, if_true, ev_Lst, ev_aCons, ev_aNil, List.length_cons, List.length_nil, Nat.reduceAdd, Nat.reduceLeDiff, ev_mod _ 4 (by decide), ev_fdiv _ 4096 (by decide), ev_ixL, e, Option.map_some]
      rfl
    rcases c with c | c | c | c
    · exact ⟨1, by omega, by omega, key 1 (by omega) (by omega) (at_ 1 (by rw [c]; rfl))⟩
    · exact ⟨1, by omega, by omega, key 1 (by omega) (by omega) (at_ 1 (by rw [c]; rfl))⟩
    · exact ⟨3, by omega, by omega, key 3 (by omega) (by omega) (at_ 3 (by rw [c]; rfl))⟩
    · exact ⟨7, by omega, by omega, key 7 (by omega) (by omega) (at_ 7 (by rw [c]; rfl))⟩
  · refine ⟨1, by omega, by omega, key 1 (by omega) (by omega) ?_⟩
    simp only [ev_If, ev_T, ev_d2, ev_vars, ev_var0, ev_C, rbind_ok, ev_eqI, hw, decide_false, ev_dBool, Bool.false_eq_true, if_false]
    rfl
theorem cut_to (l : List Dt) (n : Nat) : cutD l none (some (n : Int)) = l.take n := by
  unfold cutD
  rw [HT.sIx_none, HT.sIx_nat, List.drop_zero, Nat.sub_zero]
  rcases Nat.le_total n l.length with h | h
  · rw [Nat.min_eq_left h]
  · rw [Nat.min_eq_right h, List.take_length, List.take_of_length_le h]
/-- what the law draws -/
theorem den_values (ns : List Int) (k : Int) (most : Nat) (h : 0 ≤ k ∧ k < 2 ^ 40) (hm : most ≤ 60) : ∃ L : List (Option Int), den_law_values [.scr ns, .int k, .int most] = rok (.lst (L.map OI)) ∧ L.length ≤ most ∧ ∀ o ∈ L, okV o := by
  have hk : ∀ i : Int, 0 ≤ i → i ≤ 1000 → den_law_mix [.scr ns, .int (k + i)] = rok (.int (mixN ns (k + i))) := fun i h0 h1 => den_mix _ _ (by omega)
  have hlt : (0 : Int) < (most : Int) + 1 := by omega
  let I : Nat → List Dt → Prop := fun m ρ => ∃ (L : List (Option Int)) (x y : Dt), ρ = [.scr ns, .int k, .int most, .lst (L.map OI), .int (mixN ns k % 4), x, y] ∧ (∀ o ∈ L, okV o) ∧ m = 70 - L.length ∧ L.length ≤ 68
  let J : List Dt → Prop := fun ρ => ∃ (L : List (Option Int)) (x y : Dt), ρ = [.scr ns, .int k, .int most, .lst (L.map OI), .int (mixN ns k % 4), x, y] ∧ (∀ o ∈ L, okV o)
  have W := while_inv (p := dT (d2 dLt (dCall (one bLen) (aCons (dVar 3) aNil)) (d2 dMod (dCall den_law_mix (aCons (dVar 0) (aCons (d2 dAdd (dVar 1) (dC (.int 1))) aNil))) (d2 dAdd (dVar 2) (dC (.int 1))))))
    (s := dSeq (dSet 5 (dCall den_law_mix (aCons (dVar 0) (aCons (d2 dAdd (d2 dAdd (dVar 1) (dC (.int 2))) (dCall (one bLen) (aCons (dVar 3) aNil))) aNil)))) (dSeq (dSet 6 (dCall den_law_value (aCons (dVar 0) (aCons (d2 dAdd (d2 dAdd (dVar 1) (dC (.int 2))) (dCall (one bLen) (aCons (dVar 3) aNil))) aNil)))) (dSeq (dIfS (pAnd (dT (d2 dEq (dVar 4) (dC (.int 1)))) (pAnd (dTr (dVar 3)) (dT (d2 dNotN (d2 dIx (dVar 3) (d1 dNeg (dC (.int 1)))) (dC .non))))) (dSet 6 (dCall (two bMax2) (aCons (d1 dNeg (dC (.int 4000000))) (aCons (dCall (two bMin2) (aCons (dC (.int 4000000)) (aCons (d2 dSub (d2 dAdd (d2 dIx (dVar 3) (d1 dNeg (dC (.int 1)))) (d2 dMod (d2 dFdiv (dVar 5) (dC (.int 16))) (dC (.int 5)))) (dC (.int 1))) aNil))) aNil)))) dNext) (dSeq (dIfS (pAnd (dT (d2 dEq (dVar 4) (dC (.int 2)))) (pAnd (dTr (dVar 3)) (dT (d2 dGt (d2 dMod (dVar 5) (dC (.int 3))) (dC (.int 0)))))) (dSet 6 (d2 dIx (dVar 3) (d2 dMod (d2 dFdiv (dVar 5) (dC (.int 16))) (dCall (one bLen) (aCons (dVar 3) aNil))))) dNext) (dSet 3 (d2 dCat (dVar 3) (d2 dRep (dLst (aCons (dVar 6) aNil)) (dIf (dT (d2 dEq (dVar 4) (dC (.int 3)))) (d2 dIx (dLst (aCons (dC (.int 1)) (aCons (dC (.int 1)) (aCons (dC (.int 3)) (aCons (dC (.int 7)) aNil))))) (d2 dMod (d2 dFdiv (dVar 5) (dC (.int 4096))) (dC (.int 4)))) (dC (.int 1)))))))))) I J 100 70 [.scr ns, .int k, .int most, .lst (([] : List (Option Int)).map OI), .int (mixN ns k % 4), .non, .non] (by omega) ⟨[], _, _, rfl, by simp, rfl, by simp⟩
    (by
      rintro m ρ ⟨L, x, y, rfl, hL, rfl, hl⟩
      have hc := hk 1 (by omega) (by omega)
      have b0 := Int.emod_nonneg (mixN ns (k + 1)) (Int.ne_of_gt hlt)
      have b1 := Int.emod_lt_of_pos (mixN ns (k + 1)) hlt
      by_cases c : ((L.map OI).length : Int) < mixN ns (k + 1) % ((most : Int) + 1)
      · right
        refine ⟨by simp only [ev_T, ev_d2, ev_Call, ev_aCons, ev_aNil, ev_vars, ev_var0, ev_C, rbind_ok, ev_one, ev_lenL, ev_add, hc, ev_mod _ _ hlt, ev_lt, c, decide_true, ev_dBool], ?_⟩
        have e2 : k + 2 + ((L.map OI).length : Int) = k + (2 + ((L.map OI).length : Int)) := by omega
        have hl2 : ((L.map OI).length : Int) = L.length := by rw [List.length_map]
        have h5 := hk (2 + ((L.map OI).length : Int)) (by omega) (by omega)
        obtain ⟨o, h6, ho⟩ := den_value ns (k + (2 + ((L.map OI).length : Int))) (by omega)
        obtain ⟨o1, ho1, s1⟩ := way1 (.scr ns) (.int k) (.int most) L (mixN ns k % 4) (mixN ns (k + (2 + ((L.map OI).length : Int)))) o hL ho
        obtain ⟨o2, ho2, s2⟩ := way2 (.scr ns) (.int k) (.int most) L (mixN ns k % 4) (mixN ns (k + (2 + ((L.map OI).length : Int)))) o1 (mixN_lo _ _) hL ho1
        obtain ⟨j, j1, j7, s3⟩ := way3 (.scr ns) (.int k) (.int most) L (mixN ns k % 4) (mixN ns (k + (2 + ((L.map OI).length : Int)))) o2 (mixN_lo _ _) (by omega)
        refine ⟨[.scr ns, .int k, .int most, .lst ((L ++ List.replicate j o2).map OI), .int (mixN ns k % 4), .int (mixN ns (k + (2 + ((L.map OI).length : Int)))), OI o2], 70 - (L ++ List.replicate j o2).length, ?_, ?_, ⟨L ++ List.replicate j o2, _, _, rfl, ?_, rfl, ?_⟩⟩
        · have e7 : d2 dAdd (d2 dAdd (dVar 1) (dC (.int 2))) (dCall (one bLen) (aCons (dVar 3) aNil)) [.scr ns, .int k, .int most, .lst (L.map OI), .int (mixN ns k % 4), x, y] = rok (.int (k + (2 + ((L.map OI).length : Int)))) := by rw [← e2]; rfl
          have e8 : d2 dAdd (d2 dAdd (dVar 1) (dC (.int 2))) (dCall (one bLen) (aCons (dVar 3) aNil)) [.scr ns, .int k, .int most, .lst (L.map OI), .int (mixN ns k % 4), .int (mixN ns (k + (2 + ((L.map OI).length : Int)))), y] = rok (.int (k + (2 + ((L.map OI).length : Int)))) := by rw [← e2]; rfl
          exact Eq.trans (seq_nx (set_to (Eq.trans (call_2 rfl e7) h5))) (Eq.trans (seq_nx (set_to (Eq.trans (call_2 rfl e8) h6))) (Eq.trans (seq_nx s1) (Eq.trans (seq_nx s2) s3)))
        · rw [List.length_append, List.length_replicate]
          have : L.length ≤ 68 := hl
          omega
        · intro q hq
          rcases List.mem_append.mp hq with hq | hq
          · exact hL q hq
          · rw [(List.mem_replicate.mp hq).2]; exact ho2
        · rw [List.length_append, List.length_replicate]
          omega
      · left
        exact ⟨by simp only [ev_T, ev_d2, ev_Call, ev_aCons, ev_aNil, ev_vars, ev_var0, ev_C, rbind_ok, ev_one, ev_lenL, ev_add, hc, ev_mod _ _ hlt, ev_lt, c, decide_false, ev_dBool], L, x, y, rfl, hL⟩)
  obtain ⟨ρ', e, L, x, y, rfl, hL⟩ := W
  refine ⟨L.take most, ?_, ?_, fun o ho => hL o (List.mem_of_mem_take ho)⟩
  · have h0 : den_law_mix [.scr ns, .int k] = rok (.int (mixN ns k)) := den_mix _ _ (by omega)
    have fin : retC .ownf (.lst ((L.take most).map OI)) = true := flat_OI _
    exact fn_rt (Eq.trans (seq_nx (set_to rfl)) (Eq.trans (seq_nx (set_to (Eq.trans (d2_to (Eq.trans (call_2 rfl rfl) h0) rfl) (ev_mod _ 4 (by decide))))) (Eq.trans (seq_nx e) (ret_to (by
      simp only [ev_Sl, ev_oNone, ev_oSome, ev_vars, ev_var0, rbind_ok, ev_oInt, ev_sliceL, cut_to, List.map_take]) fin))))
  · rw [List.length_take]; omega
end VL

set_option Elab.async false
set_option linter.all false
set_option maxRecDepth 100000
set_option maxHeartbeats 1000000
namespace VL
open PySem PySem.Spec PyProof.Rows L2
def Okl (L : List (Option Int)) : Prop := 1 ≤ L.length ∧ L.length ≤ 100 ∧ ∀ o ∈ L, okV o
/-! ### look_values -/
theorem look_one (x : Dt) (o : Option Int) : ((dIfS (pAnd (dT (d2 dNotN (dVar 1) (dC .non))) (pNot (dT (d3 dLe dLe (d1 dNeg (dC (.int 4000000))) (dVar 1) (dC (.int 4000000)))))) (dRaise 1) dNext) [x, OI o] = rok (.nx [x, OI o]) ∧ okV o) ∨
    ((dIfS (pAnd (dT (d2 dNotN (dVar 1) (dC .non))) (pNot (dT (d3 dLe dLe (d1 dNeg (dC (.int 4000000))) (dVar 1) (dC (.int 4000000)))))) (dRaise 1) dNext) [x, OI o] = some (.error 1) ∧ ¬ okV o) := by
  cases o with
  | none => exact .inl ⟨rfl, fun i e => by cases e⟩
  | some i =>
    by_cases h1 : (-4000000 : Int) ≤ i
    · by_cases h2 : i ≤ 4000000
      · refine .inl ⟨?_, fun j e => by cases e; exact ⟨h1, h2⟩⟩
        simp [h1, h2]
      · refine .inr ⟨?_, fun h => h2 (h i rfl).2⟩
        simp [h1, h2]
    · refine .inr ⟨?_, fun h => h1 (h i rfl).1⟩
      simp [h1]
theorem look_for (x : Dt) : ∀ (L : List (Option Int)) (y : Dt),
    ((∃ ρ', dForL (setN 1) (dIfS (pAnd (dT (d2 dNotN (dVar 1) (dC .non))) (pNot (dT (d3 dLe dLe (d1 dNeg (dC (.int 4000000))) (dVar 1) (dC (.int 4000000)))))) (dRaise 1) dNext) (L.map OI) [x, y] = rok (.nx ρ')) ∧ ∀ o ∈ L, okV o) ∨
    (dForL (setN 1) (dIfS (pAnd (dT (d2 dNotN (dVar 1) (dC .non))) (pNot (dT (d3 dLe dLe (d1 dNeg (dC (.int 4000000))) (dVar 1) (dC (.int 4000000)))))) (dRaise 1) dNext) (L.map OI) [x, y] = some (.error 1) ∧ ¬ ∀ o ∈ L, okV o)
  | [], y => .inl ⟨⟨_, rfl⟩, by simp⟩
  | o :: L, y => by
    rcases look_one x o with ⟨e, h⟩ | ⟨e, h⟩
    · rcases look_for x L (OI o) with ⟨⟨ρ', e2⟩, h2⟩ | ⟨e2, h2⟩
      · refine .inl ⟨⟨ρ', ?_⟩, ?_⟩
        · rw [List.map_cons, dForL, ev_setN]
          simp only [Option.map_some, rbind_ok', List.set]
          rw [e, rbind_ok]
          exact e2
        · intro q hq
          rcases List.mem_cons.mp hq with rfl | hq
          · exact h
          · exact h2 q hq
      · refine .inr ⟨?_, fun k => h2 fun q hq => k q (List.mem_cons_of_mem _ hq)⟩
        rw [List.map_cons, dForL, ev_setN]
        simp only [Option.map_some, rbind_ok', List.set]
        rw [e, rbind_ok]
        exact e2
    · refine .inr ⟨?_, fun k => h (k o List.mem_cons_self)⟩
      rw [List.map_cons, dForL, ev_setN]
      simp only [Option.map_some, rbind_ok', List.set]
      rw [e, rbind_error]
theorem look_size (L : List (Option Int)) (y : Dt) : (pNot (dT (d3 dLe dLe (dC (.int 1)) (dCall (one bLen) (aCons (dVar 0) aNil)) (dC (.int 100))))) [.lst (L.map OI), y] = rok (!decide (1 ≤ L.length ∧ L.length ≤ 100)) := by
  have e : ((L.map OI).length : Int) = (L.length : Int) := by rw [List.length_map]
  by_cases h1 : 1 ≤ L.length
  · have h1' : (1 : Int) ≤ L.length := by omega
    by_cases h2 : L.length ≤ 100
    · have h2' : (L.length : Int) ≤ 100 := by omega
      simp only [ev_pNot, ev_T, ev_d3, ev_C, rbind_ok, ev_Call, ev_aCons, ev_aNil, ev_var0, ev_one, ev_lenL, e, ev_le, h1', h2', h1, h2, decide_true, ev_dBool, if_true, and_self]
    · have h2' : ¬ (L.length : Int) ≤ 100 := by omega
      simp only [ev_pNot, ev_T, ev_d3, ev_C, rbind_ok, ev_Call, ev_aCons, ev_aNil, ev_var0, ev_one, ev_lenL, e, ev_le, h1', h2', h1, h2, decide_true, decide_false, ev_dBool, if_true, and_false]
  · have h1' : ¬ (1 : Int) ≤ L.length := by omega
    simp only [ev_pNot, ev_T, ev_d3, ev_C, rbind_ok, ev_Call, ev_aCons, ev_aNil, ev_var0, ev_one, ev_lenL, e, ev_le, h1', h1, decide_false, ev_dBool, if_false, false_and, Bool.false_eq_true]
theorem look_ok (L : List (Option Int)) (h : Okl L) : den_look_values [.lst (L.map OI)] = rok .non := by
  have e1 := look_size L .non
  rw [decide_eq_true (⟨h.1, h.2.1⟩ : 1 ≤ L.length ∧ L.length ≤ 100)] at e1
  rcases look_for (.lst (L.map OI)) L .non with ⟨⟨ρ', e2⟩, _⟩ | ⟨_, h2⟩
  · exact fn_nx (Eq.trans (seq_nx (Eq.trans (ifS_f e1) rfl)) (Eq.trans (for_to (lst_to rfl)) e2))
  · exact absurd h.2.2 h2
theorem look_bad (L : List (Option Int)) (h : ¬ Okl L) : den_look_values [.lst (L.map OI)] = some (.error 1) := by
  have e1 := look_size L .non
  by_cases c : 1 ≤ L.length ∧ L.length ≤ 100
  · rw [decide_eq_true c] at e1
    rcases look_for (.lst (L.map OI)) L .non with ⟨_, h2⟩ | ⟨e2, _⟩
    · exact absurd ⟨c.1, c.2, h2⟩ h
    · exact fn_er (Eq.trans (seq_nx (Eq.trans (ifS_f e1) rfl)) (Eq.trans (for_to (lst_to rfl)) e2))
  · rw [decide_eq_false c] at e1
    exact fn_er (seq_er (Eq.trans (ifS_t e1) rfl))
/-! ### width -/
theorem width_loop : ∀ (n : Nat) (x : Nat) (w : Int), x < 2 ^ n → ∃ w' : Int, (w ≤ w' ∧ w' ≤ w + n) ∧ dWhile (n + 1) (dT (d2 dGt (dVar 0) (dC (.int 0)))) (dSeq (dSet 0 (d2 dFdiv (dVar 0) (dC (.int 2)))) (dSet 1 (d2 dAdd (dVar 1) (dC (.int 1))))) [.int (x : Int), .int w] = rok (.nx [.int 0, .int w'])
  | 0, x, w, h => by
    have : x = 0 := by simpa using h
    subst this
    exact ⟨w, ⟨by omega, by omega⟩, rfl⟩
  | n + 1, x, w, h => by
    by_cases hx : x = 0
    · subst hx
      exact ⟨w, ⟨by omega, by omega⟩, rfl⟩
    · obtain ⟨w', hw, e⟩ := width_loop n (x / 2) (w + 1) (by rw [Nat.pow_succ] at h; omega)
      refine ⟨w', ⟨by omega, by omega⟩, ?_⟩
      have hp : (0 : Int) < (x : Int) := by omega
      have e1 : dT (d2 dGt (dVar 0) (dC (.int 0))) [.int (x : Int), .int w] = rok true := by
        simp only [ev_T, ev_d2, ev_var0, ev_C, rbind_ok, ev_gt, hp, decide_true, ev_dBool]
      rw [dWhile, e1, rbind_ok, if_pos rfl]
      have e2 : (dSeq (dSet 0 (d2 dFdiv (dVar 0) (dC (.int 2)))) (dSet 1 (d2 dAdd (dVar 1) (dC (.int 1))))) [.int (x : Int), .int w] = rok (.nx [.int ((x / 2 : Nat) : Int), .int (w + 1)]) := by
        simp only [ev_Seq, ev_Set, ev_d2, ev_var0, ev_vars, ev_C, rbind_ok, ev_fdiv _ 2 (by decide), ev_add, List.set]
        rfl
      rw [e2, rbind_ok]
      exact e
theorem den_width_ok (x : Int) (h : 0 ≤ x ∧ x < 2 ^ 99) : ∃ w : Int, (0 ≤ w ∧ w ≤ 99) ∧ den_width [.int x] = rok (.int w) := by
  obtain ⟨n, rfl⟩ := Int.eq_ofNat_of_zero_le h.1
  obtain ⟨w, hw, e⟩ := width_loop 99 n 0 (by omega)
  exact ⟨w, ⟨by omega, by omega⟩, fn_rt (Eq.trans (seq_nx (set_to rfl)) (Eq.trans (seq_nx e) (ret_to rfl rfl)))⟩
theorem need_width : den_law_need = den_width := rfl
end VL

set_option Elab.async false
set_option linter.all false
set_option maxRecDepth 100000
set_option maxHeartbeats 1000000
namespace VL
open PySem PySem.Spec PyProof.Rows L2
/-! ### runs -/
def chg (L : List (Option Int)) (i : Nat) : Bool := decide (L[i + 1]? ≠ L[i]?)
def chgs (L : List (Option Int)) : Nat := ((List.range (L.length - 1)).filter (chg L)).length
theorem chgs_snoc (l : List (Option Int)) (b a : Option Int) : chgs ((l ++ [b]) ++ [a]) = chgs (l ++ [b]) + if b = a then 0 else 1 := by
  have e1 : ((l ++ [b]) ++ [a]).length - 1 = l.length + 1 := by simp
  have e2 : (l ++ [b]).length - 1 = l.length := by simp
  unfold chgs
  rw [e1, e2, List.range_succ, List.filter_append, List.length_append]
  have h1 : (List.range l.length).filter (chg ((l ++ [b]) ++ [a])) = (List.range l.length).filter (chg (l ++ [b])) := by
    refine List.filter_congr fun i hi => ?_
    have hi := List.mem_range.mp hi
    unfold chg
    rw [List.getElem?_append_left (l₁ := l ++ [b]) (by simp; omega), List.getElem?_append_left (l₁ := l ++ [b]) (by simp; omega)]
  rw [h1]
  have h2 : chg ((l ++ [b]) ++ [a]) l.length = decide (a ≠ b) := by
    unfold chg
    rw [List.getElem?_append_right (l₁ := l ++ [b]) (by simp), List.getElem?_append_left (l₁ := l ++ [b]) (by simp), List.getElem?_append_right (l₁ := l) (by simp)]
    simp
  rw [List.filter_cons, h2]
  by_cases h : b = a
  · have h' : ¬ (a ≠ b) := fun k => k h.symm
    rw [decide_eq_false h', if_pos h]
    rfl
  · have h' : a ≠ b := fun k => h k.symm
    rw [decide_eq_true h', if_neg h]
    rfl
theorem rng_eq (lo : Int) (n : Nat) : rng lo n = (List.range n).map fun i : Nat => Dt.int (lo + (i : Int)) := rfl
theorem rng2_to (a b : Int) (h : -1000000 ≤ a ∧ a ≤ 1000000 ∧ -1000000 ≤ b ∧ b ≤ 1000000) : rng2 [.int a, .int b] = rok (rng a (b - a).toNat) := by
  refine if_pos ?_
  simp only [inR, Bool.and_eq_true, decide_eq_true_eq]
  omega
theorem rng1_to (b : Int) (h : -1000000 ≤ b ∧ b ≤ 1000000) : rng1 [.int b] = rok (rng 0 b.toNat) := by
  refine if_pos ?_
  simp only [inR, decide_eq_true_eq]
  omega
theorem iRng2_to {f1 f2 : List Dt → R Dt} {ρ : List Dt} {a b : Int} (h1 : f1 ρ = rok (.int a)) (h2 : f2 ρ = rok (.int b)) (h : -1000000 ≤ a ∧ a ≤ 1000000 ∧ -1000000 ≤ b ∧ b ≤ 1000000) : iRng (aCons f1 (aCons f2 aNil)) rng2 ρ = rok (rng a (b - a).toNat) := by
  rw [← rng2_to a b h]
  simp only [ev_iRng, ev_aCons, ev_aNil, h1, h2, rbind_ok]
theorem iRng1_to {f1 : List Dt → R Dt} {ρ : List Dt} {a : Int} (h1 : f1 ρ = rok (.int a)) (h : -1000000 ≤ a ∧ a ≤ 1000000) : iRng (aCons f1 aNil) rng1 ρ = rok (rng 0 a.toNat) := by
  rw [← rng1_to a h]
  simp only [ev_iRng, ev_aCons, ev_aNil, h1, rbind_ok]
theorem at_OI (L : List (Option Int)) (i : Nat) (h : i < L.length) : dIx (.lst (L.map OI)) (.int (i : Int)) = rok (OI L[i]) := by
  rw [ev_ixL, atI_OI, atI_nat, List.getElem?_eq_getElem h]
  rfl
theorem len_OI (L : List (Option Int)) : bLen (.lst (L.map OI)) = rok (.int (L.length : Int)) := by rw [ev_lenL, List.length_map]
theorem law_runs_ok (L : List (Option Int)) (h0 : 1 ≤ L.length) (h : L.length ≤ 1000) : den_law_runs [.lst (L.map OI)] = rok (.int (1 + chgs L)) := by
  have hc : dComp (iRng (aCons (dC (.int 1)) (aCons (dCall (one bLen) (aCons (dVar 0) aNil)) aNil)) rng2) (setN 1) (dT (d2 dNe (d2 dIx (dVar 0) (dVar 1)) (d2 dIx (dVar 0) (d2 dSub (dVar 1) (dC (.int 1)))))) (dVar 1) [.lst (L.map OI), .non] = rok (.lst (((List.range (L.length - 1)).filter (chg L)).map fun i : Nat => Dt.int (1 + (i : Int)))) := by
    refine comp_map (fun i : Nat => Dt.int (1 + (i : Int))) (chg L) (fun i : Nat => Dt.int (1 + (i : Int))) (List.range (L.length - 1)) ?_ (by rw [List.length_range]; omega) ?_
    · rw [iRng2_to (a := 1) (b := (L.length : Int)) rfl (Eq.trans (call_1 rfl) (len_OI L)) (by omega), rng_eq]
      have : ((L.length : Int) - 1).toNat = L.length - 1 := by omega
      rw [this]
    · intro i hi
      have hi := List.mem_range.mp hi
      refine ⟨[.lst (L.map OI), .int (1 + (i : Int))], rfl, ?_, fun _ => rfl⟩
      have a1 : d2 dIx (dVar 0) (dVar 1) [.lst (L.map OI), .int (1 + (i : Int))] = rok (OI (L[i + 1]'(by omega))) := by
        have e : (1 : Int) + (i : Int) = ((i + 1 : Nat) : Int) := by omega
        rw [e]
        exact Eq.trans (d2_to rfl rfl) (at_OI L (i + 1) (by omega))
      have a2 : d2 dIx (dVar 0) (d2 dSub (dVar 1) (dC (.int 1))) [.lst (L.map OI), .int (1 + (i : Int))] = rok (OI (L[i]'(by omega))) := by
        have e : (1 : Int) + (i : Int) - 1 = (i : Int) := by omega
        refine Eq.trans (d2_to rfl (Eq.trans (d2_to rfl rfl) (ev_sub _ _))) ?_
        rw [e]
        exact at_OI L i (by omega)
      refine Eq.trans (t_to (Eq.trans (d2_to a1 a2) (ev_neO _ _))) ?_
      unfold chg
      rw [List.getElem?_eq_getElem (by omega), List.getElem?_eq_getElem (by omega)]
      by_cases c : L[i + 1]'(by omega) = L[i]'(by omega) <;> simp [c]
  have hl : bLen (.lst (((List.range (L.length - 1)).filter (chg L)).map fun i : Nat => Dt.int (1 + (i : Int)))) = rok (.int (chgs L : Int)) := by rw [ev_lenL, List.length_map]; rfl
  exact fn_rt (ret_to (Eq.trans (d2_to rfl (Eq.trans (call_1 hc) hl)) rfl) rfl)
theorem tru_snoc (l : List Dt) (a : Dt) : tru (.lst (l ++ [a])) = rok true := by cases l <;> rfl
/-- what the walk over the values holds -/
def runsI (L0 : Dt) (pre : List (Option Int)) (ρ : List Dt) : Prop := ∃ (F : List Dt) (y : Dt), ρ = [L0, .lst F, y] ∧ ((pre = [] ∧ F = []) ∨ ∃ l b F' c, pre = l ++ [b] ∧ F = F' ++ [.tup [OI b, .int c]] ∧ F.length = 1 + chgs pre)
theorem chgs_le (L : List (Option Int)) : chgs L ≤ L.length := by
  unfold chgs
  have := List.length_filter_le (chg L) (List.range (L.length - 1))
  rw [List.length_range] at this
  omega
theorem runs_ok (L : List (Option Int)) (h0 : 1 ≤ L.length) (h : L.length ≤ 1000) : ∃ F : List Dt, den_runs_of [.lst (L.map OI)] = rok (.lst F) ∧ F.length = 1 + chgs L := by
  have hst : ∀ (pre : List (Option Int)) (a : Option Int) (ρ : List Dt), pre.length ≤ 1000 → runsI (.lst (L.map OI)) pre ρ → ∃ ρ1 ρ2, setN 2 (OI a) ρ = some ρ1 ∧
      (dIfS (pAnd (dTr (dVar 1)) (dT (d2 dEq (d2 dIx (d2 dIx (dVar 1) (d1 dNeg (dC (.int 1)))) (dC (.int 0))) (dVar 2)))) (dPut 1 (dTup (aCons (dVar 2) (aCons (d2 dAdd (d2 dIx (d2 dIx (dVar 1) (d1 dNeg (dC (.int 1)))) (dC (.int 1))) (dC (.int 1))) aNil))) (d1 dNeg (dC (.int 1)))) (dAppend 1 (dTup (aCons (dVar 2) (aCons (dC (.int 1)) aNil))))) ρ1 = rok (.nx ρ2) ∧ runsI (.lst (L.map OI)) (pre ++ [a]) ρ2 := by
    rintro pre a ρ hpl ⟨F, y, rfl, c⟩
    have hF : F.length < 16777216 := by
      have := chgs_le pre
      rcases c with ⟨_, rfl⟩ | ⟨_, _, _, _, _, _, hl⟩
      · exact (by decide : 0 < 16777216)
      · omega
    refine ⟨[.lst (L.map OI), .lst F, OI a], ?_⟩
    have app : (dAppend 1 (dTup (aCons (dVar 2) (aCons (dC (.int 1)) aNil)))) [.lst (L.map OI), .lst F, OI a] = rok (.nx [.lst (L.map OI), .lst (F ++ [.tup [OI a, .int 1]]), OI a]) := app_to (tup2_to rfl rfl) rfl hF
    rcases c with ⟨rfl, rfl⟩ | ⟨l, b, F', k, rfl, rfl, hl⟩
    · refine ⟨_, rfl, Eq.trans (ifS_f rfl) app, _, _, rfl, .inr ⟨[], a, [], 1, rfl, rfl, rfl⟩⟩
    · have e0 : (dTr (dVar 1)) [.lst (L.map OI), .lst (F' ++ [.tup [OI b, .int k]]), OI a] = rok true :=
        Eq.trans (tr_to rfl) (tru_snoc F' _)
      have e1 : d2 dIx (dVar 1) (d1 dNeg (dC (.int 1))) [.lst (L.map OI), .lst (F' ++ [.tup [OI b, .int k]]), OI a] = rok (.tup [OI b, .int k]) := by
        refine Eq.trans (d2_to rfl rfl) ?_
        rw [ev_ixL, atI_last]
        rfl
      have e2 : dT (d2 dEq (d2 dIx (d2 dIx (dVar 1) (d1 dNeg (dC (.int 1)))) (dC (.int 0))) (dVar 2)) [.lst (L.map OI), .lst (F' ++ [.tup [OI b, .int k]]), OI a] = rok (decide (b = a)) :=
        t_to (Eq.trans (d2_to (Eq.trans (d2_to e1 rfl) rfl) rfl) (ev_eqO b a))
      by_cases q : b = a
      · subst q
        rw [decide_eq_true rfl] at e2
        have e3 : d2 dAdd (d2 dIx (d2 dIx (dVar 1) (d1 dNeg (dC (.int 1)))) (dC (.int 1))) (dC (.int 1)) [.lst (L.map OI), .lst (F' ++ [.tup [OI b, .int k]]), OI b] = rok (.int (k + 1)) :=
          Eq.trans (d2_to (Eq.trans (d2_to e1 rfl) rfl) rfl) (ev_add _ _)
        have put := put_to (i := 1) (fi := d1 dNeg (dC (.int 1))) (ρ := [.lst (L.map OI), .lst (F' ++ [.tup [OI b, .int k]]), OI b]) (tup2_to (f1 := dVar 2) rfl e3) rfl rfl (by rw [List.length_append]; exact ixN_last F'.length)
        rw [List.set_append_right _ _ (Nat.le_refl _), Nat.sub_self] at put
        refine ⟨_, rfl, Eq.trans (ifS_t (Eq.trans (and_t e0) e2)) put, _, _, rfl, .inr ⟨l ++ [b], b, F', k + 1, rfl, rfl, ?_⟩⟩
        rw [chgs_snoc, if_pos rfl]
        simpa using hl
      · rw [decide_eq_false q] at e2
        refine ⟨_, rfl, Eq.trans (ifS_f (Eq.trans (and_t e0) e2)) app, _, _, rfl, .inr ⟨l ++ [b], a, F' ++ [.tup [OI b, .int k]], 1, rfl, rfl, ?_⟩⟩
        rw [chgs_snoc, if_neg q, List.length_append, hl]
        rfl
  obtain ⟨ρ', e, F, y, rfl, c⟩ := forL_inv OI (runsI (.lst (L.map OI))) L [] [.lst (L.map OI), .lst [], .non] ⟨[], _, rfl, .inl ⟨rfl, rfl⟩⟩ fun pre a post ρ e hI => hst pre a ρ (by have := congrArg List.length e; simp at this; omega) hI
  refine ⟨F, fn_rt (Eq.trans (seq_nx (set_to rfl)) (Eq.trans (seq_nx (Eq.trans (for_to (lst_to rfl)) e)) (ret_to rfl rfl))), ?_⟩
  rcases c with ⟨c, _⟩ | ⟨_, _, _, _, _, _, c⟩
  · rw [List.nil_append] at c; subst c; exact absurd h0 (by decide)
  · exact c
/-! ### the book -/
theorem snoc_ind {α : Type} {P : List α → Prop} (h0 : P []) (h1 : ∀ l a, P l → P (l ++ [a])) (L : List α) : P L := by
  have k : ∀ M : List α, P M.reverse := fun M => by
    induction M with
    | nil => exact h0
    | cons a M ih => rw [List.reverse_cons]; exact h1 _ _ ih
  have := k L.reverse
  rwa [List.reverse_reverse] at this
def bk (L : List (Option Int)) : List (Option Int) := L.foldl (fun acc a => if a ∈ acc then acc else acc ++ [a]) []
theorem bk_snoc (L : List (Option Int)) (a : Option Int) : bk (L ++ [a]) = if a ∈ bk L then bk L else bk L ++ [a] := by
  unfold bk
  rw [List.foldl_append]
  rfl
theorem bk_mem (L : List (Option Int)) : ∀ a, a ∈ bk L ↔ a ∈ L := by
  refine snoc_ind (P := fun L => ∀ a, a ∈ bk L ↔ a ∈ L) (fun a => Iff.rfl) ?_ L
  · intro l b ih a
    rw [bk_snoc]
    by_cases h : b ∈ bk l
    · rw [if_pos h, List.mem_append, ih]
      constructor
      · exact .inl
      · rintro (k | k)
        · exact k
        · rw [List.mem_singleton] at k
          subst k
          exact (ih _).mp h
    · rw [if_neg h, List.mem_append, List.mem_append, ih]
theorem bk_len (L : List (Option Int)) : (bk L).length ≤ L.length := by
  refine snoc_ind (P := fun L => (bk L).length ≤ L.length) (Nat.le_refl _) ?_ L
  · intro l b ih
    show (bk (l ++ [b])).length ≤ _
    rw [bk_snoc]
    split <;> simp <;> omega
theorem bk_pos (L : List (Option Int)) (h : 1 ≤ L.length) : 1 ≤ (bk L).length := by
  cases L with
  | nil => simp at h
  | cons a L =>
    have : a ∈ bk (a :: L) := (bk_mem _ a).mpr List.mem_cons_self
    exact List.length_pos_of_mem this
theorem book_ok (L : List (Option Int)) (h : L.length ≤ 1000) : den_book_of [.lst (L.map OI)] = rok (.lst ((bk L).map OI)) := by
  obtain ⟨ρ', e, y, rfl⟩ := forL_inv (s := dIfS (dT (d2 dNotIn (dVar 2) (dVar 1))) (dAppend 1 (dVar 2)) dNext) (set := setN 2) OI (fun pre ρ => ∃ y, ρ = [.lst (L.map OI), .lst ((bk pre).map OI), y]) L [] [.lst (L.map OI), .lst [], .non] ⟨_, rfl⟩ (by
    rintro pre a post ρ e ⟨y, rfl⟩
    have hl : pre.length ≤ 1000 := by have := congrArg List.length e; simp at this; omega
    have hb := bk_len pre
    refine ⟨[.lst (L.map OI), .lst ((bk pre).map OI), OI a], _, rfl, ?_, OI a, rfl⟩
    have e1 : dT (d2 dNotIn (dVar 2) (dVar 1)) [.lst (L.map OI), .lst ((bk pre).map OI), OI a] = rok (!decide (a ∈ bk pre)) := t_to (Eq.trans (d2_to rfl rfl) (ev_notInO _ _))
    rw [bk_snoc]
    by_cases c : a ∈ bk pre
    · rw [decide_eq_true c] at e1
      rw [if_pos c]
      exact Eq.trans (ifS_f e1) rfl
    · rw [decide_eq_false c] at e1
      rw [if_neg c, List.map_append]
      exact Eq.trans (ifS_t e1) (app_to rfl rfl (by rw [List.length_map]; omega)))
  exact fn_rt (Eq.trans (seq_nx (set_to rfl)) (Eq.trans (seq_nx (Eq.trans (for_to (lst_to rfl)) e)) (ret_to rfl (flat_OI _))))
theorem cut_nat (l : List Dt) (i : Nat) : cutD l none (some (i : Int)) = l.take i := cut_to l i
/-- the law's book takes each value that doesn't stand ahead of it -/
def old (L : List (Option Int)) (i : Nat) : Bool := match L[i]? with
  | some a => decide (a ∈ L.take i)
  | none => false
theorem bk_pick (L : List (Option Int)) : ∀ n, n ≤ L.length → ((List.range n).filter fun i => !old L i).map (fun i => L[i]?) = (bk (L.take n)).map some
  | 0, _ => rfl
  | n + 1, h => by
    have hn : n < L.length := by omega
    have eo : old L n = decide (L[n] ∈ L.take n) := by unfold old; rw [List.getElem?_eq_getElem hn]
    have et : L.take (n + 1) = L.take n ++ [L[n]] := by rw [List.take_succ, List.getElem?_eq_getElem hn]; rfl
    rw [List.range_succ, List.filter_append, List.map_append, bk_pick L n (by omega), et, bk_snoc, List.filter_cons, List.filter_nil, eo]
    by_cases c : L[n] ∈ L.take n
    · rw [if_pos ((bk_mem _ _).mpr c), decide_eq_true c]
      simp
    · rw [if_neg (fun k => c ((bk_mem _ _).mp k)), decide_eq_false c]
      simp [List.getElem?_eq_getElem hn]
theorem law_book_ok (L : List (Option Int)) (h : L.length ≤ 1000) : den_law_book [.lst (L.map OI)] = rok (.lst ((bk L).map OI)) := by
  let y : Nat → Dt := fun i => match L[i]? with | some a => OI a | none => .non
  have hc : dComp (iRng (aCons (dCall (one bLen) (aCons (dVar 0) aNil)) aNil) rng1) (setN 1) (dT (d2 dNotIn (d2 dIx (dVar 0) (dVar 1)) (dSl sliceL (dVar 0) oNone (oSome (dVar 1))))) (d2 dIx (dVar 0) (dVar 1)) [.lst (L.map OI), .non] = rok (.lst (((List.range L.length).filter fun i => !old L i).map y)) := by
    refine comp_map (fun i : Nat => Dt.int (0 + (i : Int))) (fun i => !old L i) y (List.range L.length) ?_ (by rw [List.length_range]; omega) ?_
    · rw [iRng1_to (a := (L.length : Int)) (Eq.trans (call_1 rfl) (len_OI L)) (by omega), rng_eq]
      rfl
    · intro i hi
      have hi := List.mem_range.mp hi
      have e0 : (0 : Int) + (i : Int) = (i : Int) := by omega
      have a1 : d2 dIx (dVar 0) (dVar 1) [.lst (L.map OI), .int (i : Int)] = rok (OI L[i]) := Eq.trans (d2_to rfl rfl) (at_OI L i hi)
      refine ⟨[.lst (L.map OI), .int (i : Int)], by rw [e0]; rfl, ?_, fun _ => ?_⟩
      · have a2 : dSl sliceL (dVar 0) oNone (oSome (dVar 1)) [.lst (L.map OI), .int (i : Int)] = rok (.lst ((L.take i).map OI)) := by
          simp only [ev_Sl, ev_oNone, ev_oSome, ev_vars, ev_var0, rbind_ok, ev_oInt, ev_sliceL, cut_to, List.map_take]
        refine Eq.trans (t_to (Eq.trans (d2_to a1 a2) (ev_notInO _ _))) ?_
        unfold old
        rw [List.getElem?_eq_getElem hi]
      · rw [a1]
        show _ = rok (match L[i]? with | some a => OI a | none => .non)
        rw [List.getElem?_eq_getElem hi]
  have hy : ((List.range L.length).filter fun i => !old L i).map y = (bk L).map OI := by
    have e := bk_pick L L.length (Nat.le_refl _)
    rw [List.take_length] at e
    have e2 := congrArg (List.map fun o : Option (Option Int) => match o with | some a => OI a | none => Dt.non) e
    rw [List.map_map, List.map_map] at e2
    exact e2
  rw [hy] at hc
  exact fn_rt (ret_to hc (flat_OI _))
end VL

set_option Elab.async false
set_option linter.all false
set_option maxRecDepth 100000
set_option maxHeartbeats 1000000
namespace VL
open PySem PySem.Spec PyProof.Rows L2
theorem max_mem (l : List Int) (h : l ≠ []) : maxI l ∈ l ∧ ∀ y ∈ l, y ≤ maxI l := by
  cases l with
  | nil => exact absurd rfl h
  | cons x xs => exact foldMax xs x
theorem min_mem (l : List Int) (h : l ≠ []) : minI l ∈ l ∧ ∀ y ∈ l, minI l ≤ y := by
  cases l with
  | nil => exact absurd rfl h
  | cons x xs => exact foldMin xs x
theorem filterT {α : Type} (L : List α) : (L.filter fun _ => true) = L := by simp
theorem getD_in (M : List Int) (i : Nat) (d : Int) (h : i < M.length) : M.getD i d = M[i] := by simp [List.getD, h]
theorem getD_out (M : List Int) (i : Nat) (d : Int) (h : M.length ≤ i) : M.getD i d = d := by simp [List.getD, h]
theorem bMaxL_to (l : List Int) (h : l ≠ []) : bMaxL (.lst (l.map Dt.int)) = rok (.int (maxI l)) := by
  have e : l.isEmpty = false := by cases l <;> simp at h ⊢
  unfold bMaxL onInts
  simp only [toInts_map, e, Bool.false_eq_true, if_false]
theorem bMinL_to (l : List Int) (h : l ≠ []) : bMinL (.lst (l.map Dt.int)) = rok (.int (minI l)) := by
  have e : l.isEmpty = false := by cases l <;> simp at h ⊢
  unfold bMinL onInts
  simp only [toInts_map, e, Bool.false_eq_true, if_false]
theorem bDflt_to (k : List Int → Int) (l : List Int) (z : Dt) : bDflt k (.lst (l.map Dt.int)) z = if l.isEmpty = true then rok z else rok (.int (k l)) := by
  unfold bDflt onInts
  simp only [toInts_map]
/-! ### base -/
def nums (L : List (Option Int)) : List Int := L.filterMap id
theorem nums_mem (L : List (Option Int)) (i : Int) : i ∈ nums L ↔ some i ∈ L := by
  unfold nums
  simp [List.mem_filterMap]
theorem pick_nums (L : List (Option Int)) : (L.filter (fun o => !o.isNone)).map OI = (nums L).map Dt.int := by
  unfold nums
  induction L with
  | nil => rfl
  | cons o L ih =>
    cases o with
    | none => simpa using ih
    | some i => simpa using ih
def baseOf (L : List (Option Int)) : Int := if (nums L).isEmpty = true then 0 else minI (nums L)
def aboves (L : List (Option Int)) : List Int := L.map fun o => match o with | none => 0 | some v => v - baseOf L + 1
theorem above_bd (L : List (Option Int)) (h : ∀ o ∈ L, okV o) : ∀ x ∈ aboves L, 0 ≤ x ∧ x ≤ 8000001 := by
  intro x hx
  obtain ⟨o, ho, rfl⟩ := List.mem_map.mp hx
  cases o with
  | none => exact (show (0 : Int) ≤ 0 ∧ (0 : Int) ≤ 8000001 by decide)
  | some v =>
    have hv := h _ ho v rfl
    have hm := (nums_mem L v).mpr ho
    have hne : nums L ≠ [] := fun e => by rw [e] at hm; cases hm
    have he : (nums L).isEmpty = false := by cases q : nums L <;> simp [q] at hne ⊢
    obtain ⟨m1, m2⟩ := min_mem _ hne
    have hb := h _ ((nums_mem L _).mp m1) _ rfl
    have hb2 := m2 v hm
    show 0 ≤ v - baseOf L + 1 ∧ v - baseOf L + 1 ≤ 8000001
    unfold baseOf
    rw [he]
    simp only [Bool.false_eq_true, if_false]
    omega
theorem pick_ok (L : List (Option Int)) (h : L.length ≤ 1000) (i : Nat) (a : Nat) (ρ : List Dt) (ha : dVar a ρ = rok (.lst (L.map OI))) (hv : ∀ d, dVar i (ρ.set i d) = rok d) :
    dComp (iLst (dVar a)) (setN i) (dT (d2 dNotN (dVar i) (dC .non))) (dVar i) ρ = rok (.lst ((nums L).map Dt.int)) := by
  rw [← pick_nums]
  refine comp_map OI (fun o => !o.isNone) OI L (lst_to ha) (by omega) fun o ho => ⟨ρ.set i (OI o), rfl, ?_, fun _ => hv _⟩
  rw [← isNon_OI]
  exact t_to (Eq.trans (d2_to (hv _) rfl) (ev_notN _))
theorem base_ok (L : List (Option Int)) (h : L.length ≤ 1000) : den_base_of [.lst (L.map OI)] = rok (.int (baseOf L)) := by
  have e := pick_ok L h 1 0 [.lst (L.map OI), .non] rfl (fun d => rfl)
  refine fn_rt (ret_to (Eq.trans (d2_to e rfl) (Eq.trans (bDflt_to _ _ _) ?_)) rfl)
  unfold baseOf
  split <;> rfl
theorem codes_ok (L : List (Option Int)) (h : L.length ≤ 1000) : den_base_codes [.lst (L.map OI)] = rok (.lst ((aboves L).map Dt.int)) := by
  have e : dComp (iLst (dVar 0)) (setN 2) pYes (dIf (dT (d2 dIsN (dVar 2) (dC .non))) (dC (.int 0)) (d2 dAdd (d2 dSub (dVar 2) (dVar 1)) (dC (.int 1)))) [.lst (L.map OI), .int (baseOf L), .non] = rok (.lst ((L.filter fun _ => true).map fun o => Dt.int (match o with | none => 0 | some v => v - baseOf L + 1))) := by
    refine comp_map OI (fun _ => true) _ L (lst_to rfl) (by omega) fun o ho => ⟨[.lst (L.map OI), .int (baseOf L), OI o], rfl, rfl, fun _ => ?_⟩
    cases o with
    | none => exact Eq.trans (if_t rfl) rfl
    | some v => exact Eq.trans (if_f rfl) rfl
  rw [filterT] at e
  have e2 : (L.map fun o => Dt.int (match o with | none => 0 | some v => v - baseOf L + 1)) = (aboves L).map Dt.int := by unfold aboves; rw [List.map_map]; rfl
  rw [e2] at e
  have fl : retC .ownf (.lst ((aboves L).map Dt.int)) = true := by
    show ((aboves L).map Dt.int).all isFlat = true
    rw [List.all_map]; simp [Function.comp_def]
  exact fn_rt (Eq.trans (seq_nx (set_to (Eq.trans (call_1 rfl) (base_ok L h)))) (ret_to e fl))
theorem law_above_ok (L : List (Option Int)) (h : L.length ≤ 1000) : den_law_above [.lst (L.map OI)] = rok (.lst ((aboves L).map Dt.int)) := by
  have e0 := pick_ok L h 2 0 [.lst (L.map OI), .non, .non] rfl (fun d => rfl)
  have e : dComp (iLst (dVar 0)) (setN 2) pYes (dIf (dT (d2 dIsN (dVar 2) (dC .non))) (dC (.int 0)) (d2 dAdd (d2 dSub (dVar 2) (dCall (one bMinL) (aCons (dVar 1) aNil))) (dC (.int 1)))) [.lst (L.map OI), .lst ((nums L).map Dt.int), .non] = rok (.lst ((L.filter fun _ => true).map fun o => Dt.int (match o with | none => 0 | some v => v - baseOf L + 1))) := by
    refine comp_map OI (fun _ => true) _ L (lst_to rfl) (by omega) fun o ho => ⟨[.lst (L.map OI), .lst ((nums L).map Dt.int), OI o], rfl, rfl, fun _ => ?_⟩
    cases o with
    | none => exact Eq.trans (if_t rfl) rfl
    | some v =>
      have hm := (nums_mem L v).mpr ho
      have hne : nums L ≠ [] := fun e => by rw [e] at hm; cases hm
      have he : (nums L).isEmpty = false := by cases q : nums L <;> simp [q] at hne ⊢
      have hb : baseOf L = minI (nums L) := by unfold baseOf; rw [he]; rfl
      show dIf _ _ _ [.lst (L.map OI), .lst ((nums L).map Dt.int), .int v] = rok (.int (v - baseOf L + 1))
      rw [hb]
      exact Eq.trans (if_f rfl) (Eq.trans (d2_to (Eq.trans (d2_to rfl (Eq.trans (call_1 rfl) (bMinL_to _ hne))) (ev_sub _ _)) rfl) (ev_add _ _))
  rw [filterT] at e
  have e2 : (L.map fun o => Dt.int (match o with | none => 0 | some v => v - baseOf L + 1)) = (aboves L).map Dt.int := by unfold aboves; rw [List.map_map]; rfl
  rw [e2] at e
  have fl : retC .ownf (.lst ((aboves L).map Dt.int)) = true := by
    show ((aboves L).map Dt.int).all isFlat = true
    rw [List.all_map]; simp [Function.comp_def]
  exact fn_rt (Eq.trans (seq_nx (set_to e0)) (ret_to e fl))
/-! ### steps -/
def stepOf (M : List Int) (i : Nat) : Int := if M.getD (i + 1) 0 - M.getD i 0 ≥ 0 then 2 * (M.getD (i + 1) 0 - M.getD i 0) else -2 * (M.getD (i + 1) 0 - M.getD i 0) - 1
def stepsOf (M : List Int) : List Int := (List.range (M.length - 1)).map (stepOf M)
def okI (i : Int) : Prop := -4000000 ≤ i ∧ i ≤ 4000000
theorem getD_ok (M : List Int) (h : ∀ x ∈ M, okI x) (i : Nat) : okI (M.getD i 0) := by
  by_cases c : i < M.length
  · rw [getD_in _ _ _ c]; exact h _ (List.getElem_mem c)
  · rw [getD_out _ _ _ (by omega)]; exact ⟨by decide, by decide⟩
theorem steps_bd (M : List Int) (h : ∀ x ∈ M, okI x) : ∀ x ∈ stepsOf M, 0 ≤ x ∧ x ≤ 16000000 := by
  intro x hx
  obtain ⟨i, hi, rfl⟩ := List.mem_map.mp hx
  have h1 := getD_ok M h i
  have h2 := getD_ok M h (i + 1)
  unfold stepOf okI at *
  split <;> omega
theorem at_I (M : List Int) (i : Nat) (h : i < M.length) : dIx (.lst (M.map Dt.int)) (.int (i : Int)) = rok (.int (M.getD i 0)) := by
  rw [ev_ixL, atI_map, atI_nat, List.getElem?_eq_getElem h, getD_in _ _ _ h]
  rfl
theorem steps_for (M : List Int) (h : M.length ≤ 1000) : ∃ ρ' : List Dt, (∃ y z, ρ' = [.lst (M.map Dt.int), .lst ((stepsOf M).map Dt.int), y, z]) ∧ dFor (iRng (aCons (dC (.int 1)) (aCons (dCall (one bLen) (aCons (dVar 0) aNil)) aNil)) rng2) (setN 2) (dSeq (dSet 3 (d2 dSub (d2 dIx (dVar 0) (dVar 2)) (d2 dIx (dVar 0) (d2 dSub (dVar 2) (dC (.int 1)))))) (dAppend 1 (dIf (dT (d2 dGe (dVar 3) (dC (.int 0)))) (d2 dMul (dC (.int 2)) (dVar 3)) (d2 dSub (d2 dMul (d1 dNeg (dC (.int 2))) (dVar 3)) (dC (.int 1))))))
    [.lst (M.map Dt.int), .lst [], .non, .non] = rok (.nx ρ') := by
  have hr : iRng (aCons (dC (.int 1)) (aCons (dCall (one bLen) (aCons (dVar 0) aNil)) aNil)) rng2 [.lst (M.map Dt.int), .lst [], .non, .non] = rok ((List.range (M.length - 1)).map fun i : Nat => Dt.int (1 + (i : Int))) := by
    rw [iRng2_to (a := 1) (b := (M.length : Int)) rfl (Eq.trans (call_1 rfl) (by rw [ev_one, ev_lenL, List.length_map])) (by omega), rng_eq]
    have : ((M.length : Int) - 1).toNat = M.length - 1 := by omega
    rw [this]
  obtain ⟨ρ', e, y, z, q⟩ := forL_inv (set := setN 2) (s := (dSeq (dSet 3 (d2 dSub (d2 dIx (dVar 0) (dVar 2)) (d2 dIx (dVar 0) (d2 dSub (dVar 2) (dC (.int 1)))))) (dAppend 1 (dIf (dT (d2 dGe (dVar 3) (dC (.int 0)))) (d2 dMul (dC (.int 2)) (dVar 3)) (d2 dSub (d2 dMul (d1 dNeg (dC (.int 2))) (dVar 3)) (dC (.int 1))))))) (fun i : Nat => Dt.int (1 + (i : Int))) (fun pre ρ => ∃ y z, ρ = [.lst (M.map Dt.int), .lst ((pre.map (stepOf M)).map Dt.int), y, z]) (List.range (M.length - 1)) [] [.lst (M.map Dt.int), .lst [], .non, .non] ⟨_, _, rfl⟩ (by
    rintro pre i post ρ e ⟨y, z, rfl⟩
    rw [List.nil_append] at e
    have hi : i < M.length - 1 := List.mem_range.mp (by rw [e]; simp)
    have hl : pre.length ≤ 1000 := by have := congrArg List.length e; simp at this; omega
    have e1 : (1 : Int) + (i : Int) = ((i + 1 : Nat) : Int) := by omega
    have a1 : d2 dIx (dVar 0) (dVar 2) [.lst (M.map Dt.int), .lst ((pre.map (stepOf M)).map Dt.int), .int (1 + (i : Int)), z] = rok (.int (M.getD (i + 1) 0)) := by
      rw [e1]; exact Eq.trans (d2_to rfl rfl) (at_I M (i + 1) (by omega))
    have a2 : d2 dIx (dVar 0) (d2 dSub (dVar 2) (dC (.int 1))) [.lst (M.map Dt.int), .lst ((pre.map (stepOf M)).map Dt.int), .int (1 + (i : Int)), z] = rok (.int (M.getD i 0)) := by
      have e : (1 : Int) + (i : Int) - 1 = (i : Int) := by omega
      refine Eq.trans (d2_to rfl (Eq.trans (d2_to rfl rfl) (ev_sub _ _))) ?_
      rw [e]
      exact at_I M i (by omega)
    refine ⟨[.lst (M.map Dt.int), .lst ((pre.map (stepOf M)).map Dt.int), .int (1 + (i : Int)), z], [.lst (M.map Dt.int), .lst (((pre ++ [i]).map (stepOf M)).map Dt.int), .int (1 + (i : Int)), .int (M.getD (i + 1) 0 - M.getD i 0)], rfl, ?_, _, _, rfl⟩
    refine Eq.trans (seq_nx (set_to (Eq.trans (d2_to a1 a2) (ev_sub _ _)))) ?_
    have e3 : (dIf (dT (d2 dGe (dVar 3) (dC (.int 0)))) (d2 dMul (dC (.int 2)) (dVar 3)) (d2 dSub (d2 dMul (d1 dNeg (dC (.int 2))) (dVar 3)) (dC (.int 1)))) [.lst (M.map Dt.int), .lst ((pre.map (stepOf M)).map Dt.int), .int (1 + (i : Int)), .int (M.getD (i + 1) 0 - M.getD i 0)] = rok (.int (stepOf M i)) := by
      unfold stepOf
      by_cases c : M.getD (i + 1) 0 - M.getD i 0 ≥ 0
      · rw [if_pos c]
        have t : dT (d2 dGe (dVar 3) (dC (.int 0))) [.lst (M.map Dt.int), .lst ((pre.map (stepOf M)).map Dt.int), .int (1 + (i : Int)), .int (M.getD (i + 1) 0 - M.getD i 0)] = rok true := by
          refine t_to (Eq.trans (d2_to rfl rfl) ?_)
          rw [ev_ge, decide_eq_true c]
        exact Eq.trans (if_t t) (Eq.trans (d2_to rfl rfl) (ev_mulL _ _ (by decide)))
      · rw [if_neg c]
        have t : dT (d2 dGe (dVar 3) (dC (.int 0))) [.lst (M.map Dt.int), .lst ((pre.map (stepOf M)).map Dt.int), .int (1 + (i : Int)), .int (M.getD (i + 1) 0 - M.getD i 0)] = rok false := by
          refine t_to (Eq.trans (d2_to rfl rfl) ?_)
          rw [ev_ge, decide_eq_false c]
        exact Eq.trans (if_f t) (Eq.trans (d2_to (Eq.trans (d2_to rfl rfl) (ev_mulL _ _ (by decide))) rfl) (ev_sub _ _))
    refine Eq.trans (app_to e3 rfl (by rw [List.length_map, List.length_map]; omega)) ?_
    rw [List.map_append, List.map_append]
    rfl)
  exact ⟨ρ', ⟨y, z, by rw [q]; rfl⟩, Eq.trans (for_to hr) e⟩
theorem flat_I (l : List Int) : (l.map Dt.int).all isFlat = true := by
  rw [List.all_map]; simp [Function.comp_def]
theorem law_steps_ok (M : List Int) (h : M.length ≤ 1000) : den_law_steps [.lst (M.map Dt.int)] = rok (.lst ((stepsOf M).map Dt.int)) := by
  obtain ⟨ρ', ⟨y, z, rfl⟩, e⟩ := steps_for M h
  exact fn_rt (Eq.trans (seq_nx (set_to rfl)) (Eq.trans (seq_nx e) (ret_to rfl (flat_I _))))
theorem mapI (M : List Int) : M.map Dt.int = (M.map some).map OI := by rw [List.map_map]; rfl
theorem step_codes_ok (M : List Int) (h : M.length ≤ 1000) : den_step_codes [.lst (M.map Dt.int)] = rok (.lst ((stepsOf M).map Dt.int)) := by
  obtain ⟨ρ', ⟨y, z, rfl⟩, e⟩ := steps_for M h
  have e0 : dT (d2 dIn (dC .non) (dVar 0)) [.lst (M.map Dt.int), .non, .non, .non] = rok false := by
    refine t_to (Eq.trans (d2_to rfl rfl) ?_)
    rw [mapI]
    refine Eq.trans (ev_inO (M.map some) none) ?_
    simp
  exact fn_rt (Eq.trans (seq_nx (Eq.trans (ifS_f e0) rfl)) (Eq.trans (seq_nx (set_to rfl)) (Eq.trans (seq_nx e) (ret_to rfl rfl))))
theorem step_codes_none (L : List (Option Int)) (h : none ∈ L) : den_step_codes [.lst (L.map OI)] = rok .non := by
  have e0 : dT (d2 dIn (dC .non) (dVar 0)) [.lst (L.map OI), .non, .non, .non] = rok true := by
    refine t_to (Eq.trans (d2_to rfl rfl) ?_)
    refine Eq.trans (ev_inO L none) ?_
    rw [decide_eq_true h]
  exact fn_rt (seq_rt (Eq.trans (ifS_t e0) (ret_to rfl rfl)))
theorem no_none : ∀ (L : List (Option Int)), none ∉ L → ∃ M : List Int, L = M.map some
  | [], _ => ⟨[], rfl⟩
  | none :: L, h => absurd List.mem_cons_self h
  | some i :: L, h => by
    obtain ⟨M, rfl⟩ := no_none L fun k => h (List.mem_cons_of_mem _ k)
    exact ⟨i :: M, rfl⟩
end VL

set_option Elab.async false
set_option linter.all false
set_option maxRecDepth 100000
set_option maxHeartbeats 1000000
namespace VL
open PySem PySem.Spec PyProof.Rows L2
theorem kn {a b : Str} {ρ : List Dt} (h : (PyData.strOk a && PyData.strOk b && !(a == b)) = true) : dT (d2 dEq (dVar 0) (dC (.str b))) (.str a :: ρ) = rok false := by
  simp only [Bool.and_eq_true, Bool.not_eq_true'] at h
  refine t_to (Eq.trans (d2_to rfl rfl) ?_)
  rw [ev_eqS _ _ h.1.1 h.1.2, h.2]
theorem ky {a : Str} {ρ : List Dt} (h : PyData.strOk a = true) : dT (d2 dEq (dVar 0) (dC (.str a))) (.str a :: ρ) = rok true := by
  refine t_to (Eq.trans (d2_to rfl rfl) ?_)
  rw [ev_eqS _ _ h h, beq_self_eq_true]
theorem kn' {a b : Str} {ρ : List Dt} (h : (PyData.strOk a && PyData.strOk b && !(a == b)) = true) : dT (d2 dNe (dVar 0) (dC (.str b))) (.str a :: ρ) = rok true := by
  simp only [Bool.and_eq_true, Bool.not_eq_true'] at h
  refine t_to (Eq.trans (d2_to rfl rfl) ?_)
  rw [ev_neS _ _ h.1.1 h.1.2, h.2]
  rfl
theorem ky' {a : Str} {ρ : List Dt} (h : PyData.strOk a = true) : dT (d2 dNe (dVar 0) (dC (.str a))) (.str a :: ρ) = rok false := by
  refine t_to (Eq.trans (d2_to rfl rfl) ?_)
  rw [ev_neS _ _ h h, beq_self_eq_true]
  rfl
theorem skip {p : List Dt → R Bool} {s1 s2 : List Dt → R Fl} {ρ : List Dt} (h : p ρ = rok false) : dSeq (dIfS p s1 dNext) s2 ρ = s2 ρ := seq_nx (Eq.trans (ifS_f h) rfl)
theorem take_ {p : List Dt → R Bool} {s1 s3 s2 : List Dt → R Fl} {ρ : List Dt} {d : Dt} (h : p ρ = rok true) (e : s1 ρ = rok (.rt d)) : dSeq (dIfS p s1 s3) s2 ρ = rok (.rt d) := seq_rt (Eq.trans (ifS_t h) e)
theorem len_to {ρ : List Dt} {L : List (Option Int)} {f : List Dt → R Dt} (h : f ρ = rok (.lst (L.map OI))) : dCall (one bLen) (aCons f aNil) ρ = rok (.int (L.length : Int)) := Eq.trans (call_1 h) (len_OI L)
def K0 : Str := "plain"
def K1 : Str := "runs"
def K2 : Str := "book"
def K3 : Str := "base"
def K4 : Str := "steps"
abbrev LO (L : List (Option Int)) : Dt := .lst (L.map OI)
/-! plain -/
theorem room0 (L : List (Option Int)) (h : Okl L) : den_law_room [.str "plain", LO L] = rok (.int (11 + 24 * L.length)) ∧ den_room [.str "plain", LO L] = rok (.int (11 + 24 * L.length)) := by
  constructor
  · exact fn_rt (Eq.trans (seq_nx (set_to (len_to rfl))) (take_ (ky (by decide +kernel)) (ret_to (Eq.trans (d2_to rfl (Eq.trans (d2_to rfl rfl) (ev_mulL _ _ (by decide)))) (ev_add _ _)) rfl)))
  · exact fn_rt (Eq.trans (seq_nx (drop_to (Eq.trans (call_1 rfl) (look_ok L h)))) (Eq.trans (seq_nx (set_to (len_to rfl))) (take_ (ky (by decide +kernel)) (ret_to (Eq.trans (d2_to rfl (Eq.trans (d2_to rfl rfl) (ev_mulL _ _ (by decide)))) (ev_add _ _)) rfl))))
theorem room1 (L : List (Option Int)) (h : Okl L) : den_law_room [.str "runs", LO L] = rok (.int (19 + 32 * (1 + chgs L))) ∧ den_room [.str "runs", LO L] = rok (.int (19 + 32 * (1 + chgs L))) := by
  have hl : L.length ≤ 1000 := by have := h.2.1; omega
  constructor
  · exact fn_rt (Eq.trans (seq_nx (set_to (len_to rfl))) (Eq.trans (skip (kn (by decide +kernel))) (take_ (ky (by decide +kernel)) (ret_to (Eq.trans (d2_to rfl (Eq.trans (d2_to rfl (Eq.trans (call_1 rfl) (law_runs_ok L h.1 hl))) (ev_mulL _ _ (by decide)))) (ev_add _ _)) rfl))))
  · obtain ⟨F, e, hF⟩ := runs_ok L h.1 hl
    have eF : (F.length : Int) = 1 + chgs L := by omega
    rw [← eF]
    exact fn_rt (Eq.trans (seq_nx (drop_to (Eq.trans (call_1 rfl) (look_ok L h)))) (Eq.trans (seq_nx (set_to (len_to rfl))) (Eq.trans (skip (kn (by decide +kernel))) (take_ (ky (by decide +kernel)) (ret_to (Eq.trans (d2_to rfl (Eq.trans (d2_to rfl (Eq.trans (call_1 (Eq.trans (call_1 rfl) e)) (ev_lenL F))) (ev_mulL _ _ (by decide)))) (ev_add _ _)) rfl)))))
theorem room2x (L : List (Option Int)) (h : Okl L) (w : Int) (hw : 0 ≤ w ∧ w ≤ 99) (ew : den_width [.int ((bk L).length - 1)] = rok (.int w)) (c : (bk L).length ≤ 64) : den_law_room [.str "book", LO L] = rok (.int (17 + 24 * (bk L).length + L.length * w)) ∧ den_room [.str "book", LO L] = rok (.int (17 + 24 * (bk L).length + L.length * w)) := by
  have hl : L.length ≤ 1000 := by have := h.2.1; omega
  have hb := bk_len L
  have hp := bk_pos L h.1
  have hh := h.2.1
  refine ⟨?_, ?_⟩
  · have t : dT (d2 dGt (dVar 3) (dC (.int 64))) [.str "book", LO L, .int L.length, .int (bk L).length] = rok false := by
      refine t_to (Eq.trans (d2_to rfl rfl) ?_)
      rw [ev_gt, decide_eq_false (by omega)]
    exact fn_rt (Eq.trans (seq_nx (set_to (len_to rfl))) (Eq.trans (skip (kn (by decide +kernel))) (Eq.trans (skip (kn (by decide +kernel))) (take_ (ky (by decide +kernel)) (Eq.trans (seq_nx (set_to (Eq.trans (len_to (Eq.trans (call_1 rfl) (law_book_ok L hl))) rfl))) (ret_to (Eq.trans (if_f t) (Eq.trans (d2_to (Eq.trans (d2_to rfl (Eq.trans (d2_to rfl rfl) (ev_mulL _ _ (by decide)))) (ev_add _ _)) (Eq.trans (d2_to rfl (Eq.trans (call_1 (Eq.trans (d2_to rfl rfl) (ev_sub _ _))) ew)) (ev_mulR _ _ (by omega)))) (ev_add _ _))) rfl))))))
  · have t : dT (d2 dLe (dVar 3) (dC (.int 64))) [.str "book", LO L, .int L.length, .int (bk L).length, .non] = rok true := by
      refine t_to (Eq.trans (d2_to rfl rfl) ?_)
      rw [ev_le, decide_eq_true (by omega)]
    have e : (17 : Int) + 24 * (bk L).length + L.length * w = 11 + 6 + 24 * (bk L).length + w * L.length := by rw [Int.mul_comm (L.length : Int) w]; rfl
    rw [e]
    exact fn_rt (Eq.trans (seq_nx (drop_to (Eq.trans (call_1 rfl) (look_ok L h)))) (Eq.trans (seq_nx (set_to (len_to rfl))) (Eq.trans (skip (kn (by decide +kernel))) (Eq.trans (skip (kn (by decide +kernel))) (take_ (ky (by decide +kernel)) (Eq.trans (seq_nx (set_to (Eq.trans (len_to (Eq.trans (call_1 rfl) (book_ok L hl))) rfl))) (ret_to (Eq.trans (if_t t) (Eq.trans (d2_to (Eq.trans (d2_to (Eq.trans (d2_to rfl rfl) (ev_add _ _)) (Eq.trans (d2_to rfl rfl) (ev_mulL _ _ (by decide)))) (ev_add _ _)) (Eq.trans (d2_to (Eq.trans (call_1 (Eq.trans (d2_to rfl rfl) (ev_sub _ _))) ew) rfl) (ev_mulL _ _ (by omega)))) (ev_add _ _))) rfl)))))))
theorem room2 (L : List (Option Int)) (h : Okl L) : ∃ r, den_law_room [.str "book", LO L] = rok (OI r) ∧ den_room [.str "book", LO L] = rok (OI r) := by
  have hl : L.length ≤ 1000 := by have := h.2.1; omega
  have hb := bk_len L
  have hp := bk_pos L h.1
  have hh := h.2.1
  obtain ⟨w, hw, ew⟩ := den_width_ok ((bk L).length - 1) (by omega)
  by_cases c : (bk L).length ≤ 64
  · exact ⟨some _, room2x L h w hw ew c⟩
  · refine ⟨none, ?_, ?_⟩
    · have t : dT (d2 dGt (dVar 3) (dC (.int 64))) [.str "book", LO L, .int L.length, .int (bk L).length] = rok true := by
        refine t_to (Eq.trans (d2_to rfl rfl) ?_)
        rw [ev_gt, decide_eq_true (by omega)]
      exact fn_rt (Eq.trans (seq_nx (set_to (len_to rfl))) (Eq.trans (skip (kn (by decide +kernel))) (Eq.trans (skip (kn (by decide +kernel))) (take_ (ky (by decide +kernel)) (Eq.trans (seq_nx (set_to (Eq.trans (len_to (Eq.trans (call_1 rfl) (law_book_ok L hl))) rfl))) (ret_to (Eq.trans (if_t t) rfl) rfl))))))
    · have t : dT (d2 dLe (dVar 3) (dC (.int 64))) [.str "book", LO L, .int L.length, .int (bk L).length, .non] = rok false := by
        refine t_to (Eq.trans (d2_to rfl rfl) ?_)
        rw [ev_le, decide_eq_false (by omega)]
      exact fn_rt (Eq.trans (seq_nx (drop_to (Eq.trans (call_1 rfl) (look_ok L h)))) (Eq.trans (seq_nx (set_to (len_to rfl))) (Eq.trans (skip (kn (by decide +kernel))) (Eq.trans (skip (kn (by decide +kernel))) (take_ (ky (by decide +kernel)) (Eq.trans (seq_nx (set_to (Eq.trans (len_to (Eq.trans (call_1 rfl) (book_ok L hl))) rfl))) (ret_to (Eq.trans (if_f t) rfl) rfl)))))))
/-- width of the greatest -/
theorem widest_ok (l : List Int) (h : ∀ x ∈ l, 0 ≤ x ∧ x ≤ 20000000) : ∃ w : Int, (0 ≤ w ∧ w ≤ 99) ∧ den_widest [.lst (l.map Dt.int)] = rok (.int w) ∧ den_width [.int (if l.isEmpty = true then 0 else maxI l)] = rok (.int w) := by
  have hb : 0 ≤ (if l.isEmpty = true then 0 else maxI l) ∧ (if l.isEmpty = true then 0 else maxI l) < 2 ^ 99 := by
    by_cases c : l.isEmpty = true
    · rw [if_pos c]; decide
    · rw [if_neg c]
      have := h _ (max_mem l (fun e => c (by rw [e]; rfl))).1
      omega
  obtain ⟨w, hw, e⟩ := den_width_ok _ hb
  refine ⟨w, hw, fn_rt (ret_to (Eq.trans (call_1 (Eq.trans (d2_to rfl rfl) (Eq.trans (bDflt_to maxI l (.int 0)) ?_))) e) rfl), e⟩
  split <;> rfl
theorem room3x (L : List (Option Int)) (h : Okl L) : ∃ w : Int, (0 ≤ w ∧ w ≤ 99) ∧ den_widest [.lst ((aboves L).map Dt.int)] = rok (.int w) ∧ den_width [.int (maxI (aboves L))] = rok (.int w) ∧ den_law_room [.str "base", LO L] = rok (.int (40 + L.length * w)) ∧ den_room [.str "base", LO L] = rok (.int (40 + L.length * w)) := by
  have hl : L.length ≤ 1000 := by have := h.2.1; omega
  have hne : aboves L ≠ [] := by
    have := h.1
    unfold aboves
    cases L <;> simp at this ⊢
  have hie : (aboves L).isEmpty = false := by cases q : aboves L <;> simp [q] at hne ⊢
  obtain ⟨w, hw, e1, e2⟩ := widest_ok (aboves L) (fun x hx => by have := above_bd L h.2.2 x hx; omega)
  rw [hie] at e2
  simp only [Bool.false_eq_true, if_false] at e2
  have hh := h.2.1
  refine ⟨w, hw, e1, e2, ?_, ?_⟩
  · exact fn_rt (Eq.trans (seq_nx (set_to (len_to rfl))) (Eq.trans (skip (kn (by decide +kernel))) (Eq.trans (skip (kn (by decide +kernel))) (Eq.trans (skip (kn (by decide +kernel))) (take_ (ky (by decide +kernel)) (ret_to (Eq.trans (d2_to rfl (Eq.trans (d2_to rfl (Eq.trans (call_1 (Eq.trans (call_1 (Eq.trans (call_1 rfl) (law_above_ok L hl))) (bMaxL_to _ hne))) e2)) (ev_mulR _ _ (by omega)))) (ev_add _ _)) rfl))))))
  · have e : (40 : Int) + L.length * w = 11 + 24 + 5 + w * L.length := by rw [Int.mul_comm (L.length : Int) w]; rfl
    rw [e]
    exact fn_rt (Eq.trans (seq_nx (drop_to (Eq.trans (call_1 rfl) (look_ok L h)))) (Eq.trans (seq_nx (set_to (len_to rfl))) (Eq.trans (skip (kn (by decide +kernel))) (Eq.trans (skip (kn (by decide +kernel))) (Eq.trans (skip (kn (by decide +kernel))) (take_ (ky (by decide +kernel)) (ret_to (Eq.trans (d2_to rfl (Eq.trans (d2_to (Eq.trans (call_1 (Eq.trans (call_1 rfl) (codes_ok L hl))) e1) rfl) (ev_mulL _ _ (by omega)))) (ev_add _ _)) rfl)))))))
theorem room3 (L : List (Option Int)) (h : Okl L) : ∃ r, den_law_room [.str "base", LO L] = rok (OI r) ∧ den_room [.str "base", LO L] = rok (OI r) := by
  obtain ⟨w, _, _, _, h1, h2⟩ := room3x L h
  exact ⟨some _, h1, h2⟩
theorem maxI_zero (l : List Int) (h : ∀ x ∈ l, 0 ≤ x) : maxI (0 :: l) = if l.isEmpty = true then 0 else maxI l := by
  obtain ⟨m1, m2⟩ := max_mem (0 :: l) (by simp)
  cases l with
  | nil => rfl
  | cons a l =>
    obtain ⟨n1, n2⟩ := max_mem (a :: l) (by simp)
    have k1 := m2 _ (List.mem_cons_of_mem 0 n1)
    show maxI (0 :: a :: l) = maxI (a :: l)
    rcases List.mem_cons.mp m1 with q | q
    · have := h _ n1
      omega
    · have := n2 _ q
      omega
theorem room4x (M : List Int) (h : Okl (M.map some)) : ∃ w : Int, (0 ≤ w ∧ w ≤ 99) ∧ den_widest [.lst ((stepsOf M).map Dt.int)] = rok (.int w) ∧ den_width [.int (maxI (0 :: stepsOf M))] = rok (.int w) ∧ den_law_room [.str "steps", LO (M.map some)] = rok (.int (40 + ((M.map some).length - 1) * w)) ∧ den_room [.str "steps", LO (M.map some)] = rok (.int (40 + ((M.map some).length - 1) * w)) := by
  have hl : (M.map some).length ≤ 1000 := by have := h.2.1; omega
  have hh := h.2.1
  have h1 := h.1
  have c : none ∉ M.map some := by simp
  have hM : M.length = (M.map some).length := by rw [List.length_map]
  have ho : ∀ x ∈ M, okI x := fun x hx => h.2.2 (some x) (List.mem_map_of_mem hx) x rfl
  have hs := steps_bd M ho
  have hmz := maxI_zero (stepsOf M) (fun x hx => (hs x hx).1)
  obtain ⟨w, hw, e1, e2⟩ := widest_ok (stepsOf M) (fun x hx => by have := hs x hx; omega)
  rw [← hmz] at e2
  have hL : LO (M.map some) = .lst (M.map Dt.int) := by unfold LO; rw [← mapI]
  have l1 := law_steps_ok M (by omega)
  have l2 := step_codes_ok M (by omega)
  rw [← hL] at l1 l2
  have hsl : (stepsOf M).length ≤ 1000 := by unfold stepsOf; rw [List.length_map, List.length_range]; omega
  refine ⟨w, hw, e1, e2, ?_, ?_⟩
  · have t : dT (d2 dIn (dC .non) (dVar 1)) [.str "steps", LO (M.map some), .int (M.map some).length, .non] = rok false := by
      refine t_to (Eq.trans (d2_to rfl rfl) ?_)
      refine Eq.trans (ev_inO (M.map some) none) ?_
      rw [decide_eq_false c]
    have cc : d2 dCat (dLst (aCons (dC (.int 0)) aNil)) (dCall den_law_steps (aCons (dVar 1) aNil)) [.str "steps", LO (M.map some), .int (M.map some).length, .non] = rok (.lst ((0 :: stepsOf M).map Dt.int)) :=
      Eq.trans (d2_to (lst1_to rfl) (Eq.trans (call_1 rfl) l1)) (cat_to [.int 0] _ (by rw [List.length_map, List.length_singleton]; omega))
    exact fn_rt (Eq.trans (seq_nx (set_to (len_to rfl))) (Eq.trans (skip (kn (by decide +kernel))) (Eq.trans (skip (kn (by decide +kernel))) (Eq.trans (skip (kn (by decide +kernel))) (Eq.trans (skip (kn (by decide +kernel))) (Eq.trans (skip t) (ret_to (Eq.trans (d2_to rfl (Eq.trans (d2_to (Eq.trans (d2_to rfl rfl) (ev_sub _ _)) (Eq.trans (call_1 (Eq.trans (call_1 cc) (bMaxL_to _ (by simp)))) e2)) (ev_mulR _ _ (by omega)))) (ev_add _ _)) rfl)))))))
  · have e : (40 : Int) + ((M.map some).length - 1) * w = 11 + 24 + 5 + w * ((M.map some).length - 1) := by rw [Int.mul_comm _ w]; rfl
    rw [e]
    exact fn_rt (Eq.trans (seq_nx (drop_to (Eq.trans (call_1 rfl) (look_ok _ h)))) (Eq.trans (seq_nx (set_to (len_to rfl))) (Eq.trans (skip (kn (by decide +kernel))) (Eq.trans (skip (kn (by decide +kernel))) (Eq.trans (skip (kn (by decide +kernel))) (Eq.trans (skip (kn (by decide +kernel))) (Eq.trans (skip (ky' (by decide +kernel))) (Eq.trans (seq_nx (set_to (Eq.trans (call_1 rfl) l2))) (ret_to (Eq.trans (if_t rfl) (Eq.trans (d2_to rfl (Eq.trans (d2_to (Eq.trans (call_1 rfl) e1) (Eq.trans (d2_to rfl rfl) (ev_sub _ _))) (ev_mulL _ _ (by omega)))) (ev_add _ _))) rfl)))))))))
theorem room4 (L : List (Option Int)) (h : Okl L) : ∃ r, den_law_room [.str "steps", LO L] = rok (OI r) ∧ den_room [.str "steps", LO L] = rok (OI r) := by
  have hl : L.length ≤ 1000 := by have := h.2.1; omega
  have hh := h.2.1
  have h1 := h.1
  by_cases c : none ∈ L
  · refine ⟨none, ?_, ?_⟩
    · have t : dT (d2 dIn (dC .non) (dVar 1)) [.str "steps", LO L, .int L.length, .non] = rok true := by
        refine t_to (Eq.trans (d2_to rfl rfl) ?_)
        refine Eq.trans (ev_inO L none) ?_
        rw [decide_eq_true c]
      exact fn_rt (Eq.trans (seq_nx (set_to (len_to rfl))) (Eq.trans (skip (kn (by decide +kernel))) (Eq.trans (skip (kn (by decide +kernel))) (Eq.trans (skip (kn (by decide +kernel))) (Eq.trans (skip (kn (by decide +kernel))) (take_ t (ret_to rfl rfl)))))))
    · exact fn_rt (Eq.trans (seq_nx (drop_to (Eq.trans (call_1 rfl) (look_ok L h)))) (Eq.trans (seq_nx (set_to (len_to rfl))) (Eq.trans (skip (kn (by decide +kernel))) (Eq.trans (skip (kn (by decide +kernel))) (Eq.trans (skip (kn (by decide +kernel))) (Eq.trans (skip (kn (by decide +kernel))) (Eq.trans (skip (ky' (by decide +kernel))) (Eq.trans (seq_nx (set_to (Eq.trans (call_1 rfl) (step_codes_none L c)))) (ret_to (Eq.trans (if_f rfl) rfl) rfl)))))))))
  · obtain ⟨M, rfl⟩ := no_none L c
    obtain ⟨w, _, _, _, h1, h2⟩ := room4x M h
    exact ⟨some _, h1, h2⟩
end VL

set_option Elab.async false
set_option linter.all false
set_option maxRecDepth 100000
set_option maxHeartbeats 1000000
namespace VL
open PySem PySem.Spec PyProof.Rows L2
theorem ifS_er {p : List Dt → R Bool} {s1 s2 : List Dt → R Fl} {ρ : List Dt} {k : Nat} (h : p ρ = some (.error k)) : dIfS p s1 s2 ρ = some (.error k) := by unfold dIfS; rw [h]; rfl
theorem t_er {f : List Dt → R Dt} {ρ : List Dt} {k : Nat} (h : f ρ = some (.error k)) : dT f ρ = some (.error k) := by unfold dT; rw [h]; rfl
theorem d2_er {h : Dt → Dt → R Dt} {f1 f2 : List Dt → R Dt} {ρ : List Dt} {k : Nat} (h1 : f1 ρ = some (.error k)) : d2 h f1 f2 ρ = some (.error k) := by unfold d2; rw [h1]; rfl
/-! rooms, all kinds -/
def kinds : List Str := ["plain", "runs", "book", "base", "steps"]
theorem room_all (L : List (Option Int)) (h : Okl L) : ∀ k ∈ kinds, ∃ r, den_law_room [.str k, LO L] = rok (OI r) ∧ den_room [.str k, LO L] = rok (OI r) := by
  intro k hk
  simp only [kinds, List.mem_cons, List.not_mem_nil, or_false] at hk
  rcases hk with rfl | rfl | rfl | rfl | rfl
  · exact ⟨some _, room0 L h⟩
  · exact ⟨some _, room1 L h⟩
  · exact room2 L h
  · exact room3 L h
  · exact room4 L h
theorem room_bad (L : List (Option Int)) (h : ¬ Okl L) (k : Dt) : den_room [k, LO L] = some (.error 1) :=
  fn_er (seq_er (drop_er (Eq.trans (call_1 rfl) (look_bad L h))))
theorem room_else (L : List (Option Int)) (h : Okl L) (k : Str) (hk : (PyData.strOk k && !(k == "plain") && !(k == "runs") && !(k == "book") && !(k == "base") && !(k == "steps")) = true) : den_room [.str k, LO L] = some (.error 2) := by
  simp only [Bool.and_eq_true] at hk
  obtain ⟨⟨⟨⟨⟨h0, h1⟩, h2⟩, h3⟩, h4⟩, h5⟩ := hk
  have q : ∀ (b : Str), PyData.strOk b = true → (!(k == b)) = true → (PyData.strOk k && PyData.strOk b && !(k == b)) = true := fun b e1 e2 => by rw [h0, e1, e2]; rfl
  exact fn_er (Eq.trans (seq_nx (drop_to (Eq.trans (call_1 rfl) (look_ok L h)))) (Eq.trans (seq_nx (set_to (len_to rfl))) (Eq.trans (skip (kn (q _ (by decide +kernel) h1))) (Eq.trans (skip (kn (q _ (by decide +kernel) h2))) (Eq.trans (skip (kn (q _ (by decide +kernel) h3))) (Eq.trans (skip (kn (q _ (by decide +kernel) h4))) (seq_er (Eq.trans (ifS_t (kn' (q _ (by decide +kernel) h5))) rfl))))))))
/-! the best -/
abbrev PR := Str × Option Int
def stepB (b : Option (Int × Str)) (p : PR) : Option (Int × Str) := match p.2, b with
  | none, b => b
  | some i, none => some (i, p.1)
  | some i, some (m, k) => if i < m then some (i, p.1) else some (m, k)
def best (P : List PR) : Option (Int × Str) := P.foldl stepB none
theorem best_snoc (P : List PR) (p : PR) : best (P ++ [p]) = stepB (best P) p := by unfold best; rw [List.foldl_append]; rfl
def is (m : Int) (o : Option Int) : Bool := decide (o = some m)
theorem best_spec (P : List PR) : (best P = none ∧ ∀ p ∈ P, p.2 = none) ∨ ∃ m k, best P = some (m, k) ∧ some m ∈ P.map (·.2) ∧ (∀ i, some i ∈ P.map (·.2) → m ≤ i) ∧ (P.map (·.1))[(P.map (·.2)).findIdx (is m)]? = some k := by
  refine snoc_ind (P := fun P : List PR => (best P = none ∧ ∀ p ∈ P, p.2 = none) ∨ ∃ m k, best P = some (m, k) ∧ some m ∈ P.map (·.2) ∧ (∀ i, some i ∈ P.map (·.2) → m ≤ i) ∧ (P.map (·.1))[(P.map (·.2)).findIdx (is m)]? = some k) (.inl ⟨rfl, by simp⟩) ?_ P
  rintro P ⟨k', r⟩ ih
  rw [best_snoc, List.map_append, List.map_append]
  have new : ∀ i : Int, r = some i → (∀ j, some j ∈ P.map (·.2) → i < j) → (P.map (·.1) ++ List.map (·.1) [((k', r) : PR)])[(P.map (·.2) ++ List.map (·.2) [((k', r) : PR)]).findIdx (is i)]? = some k' := by
    rintro i rfl hlt
    have hno : (P.map (·.2)).findIdx (is i) = (P.map (·.2)).length := by
      refine List.findIdx_eq_length.mpr fun o ho => ?_
      unfold is
      refine decide_eq_false fun e => ?_
      subst e
      exact Int.lt_irrefl i (hlt i ho)
    rw [List.findIdx_append, if_neg (by rw [hno]; omega)]
    have h0 : (List.map (·.2) [((k', some i) : PR)]).findIdx (is i) = 0 := by simp [List.findIdx_cons, is]
    rw [h0, List.getElem?_append_right (by simp)]
    simp
  have old_ : ∀ (m : Int) (k : Str), some m ∈ P.map (·.2) → (P.map (·.1))[(P.map (·.2)).findIdx (is m)]? = some k → (P.map (·.1) ++ List.map (·.1) [((k', r) : PR)])[(P.map (·.2) ++ List.map (·.2) [((k', r) : PR)]).findIdx (is m)]? = some k := by
    intro m k hm hk
    have hlt : (P.map (·.2)).findIdx (is m) < (P.map (·.2)).length := List.findIdx_lt_length.mpr ⟨_, hm, decide_eq_true rfl⟩
    rw [List.findIdx_append, if_pos hlt, List.getElem?_append_left (by rw [List.length_map] at hlt ⊢; exact hlt)]
    exact hk
  rcases ih with ⟨e, hn⟩ | ⟨m, k, e, hm, hle, hk⟩
  · rw [e]
    cases r with
    | none =>
      refine .inl ⟨rfl, fun p hp => ?_⟩
      rcases List.mem_append.mp hp with hp | hp
      · exact hn p hp
      · rw [List.mem_singleton.mp hp]
    | some i =>
      have no : ∀ j, some j ∈ P.map (·.2) → False := fun j hj => by
        obtain ⟨p, hp, e⟩ := List.mem_map.mp hj
        rw [hn p hp] at e
        cases e
      refine .inr ⟨i, k', rfl, by simp, fun j hj => ?_, new i rfl fun j hj => (no j hj).elim⟩
      rcases List.mem_append.mp hj with hj | hj
      · exact (no j hj).elim
      · simp at hj; omega
  · rw [e]
    cases r with
    | none =>
      refine .inr ⟨m, k, rfl, List.mem_append_left _ hm, fun j hj => ?_, old_ m k hm hk⟩
      rcases List.mem_append.mp hj with hj | hj
      · exact hle j hj
      · simp at hj
    | some i =>
      by_cases c : i < m
      · refine .inr ⟨i, k', by show (if i < m then some (i, k') else some (m, k)) = _; rw [if_pos c], by simp, fun j hj => ?_, new i rfl fun j hj => Int.lt_of_lt_of_le c (hle j hj)⟩
        rcases List.mem_append.mp hj with hj | hj
        · have := hle j hj; omega
        · simp at hj; omega
      · refine .inr ⟨m, k, by show (if i < m then some (i, k') else some (m, k)) = _; rw [if_neg c], List.mem_append_left _ hm, fun j hj => ?_, old_ m k hm hk⟩
        rcases List.mem_append.mp hj with hj | hj
        · exact hle j hj
        · simp at hj; omega
def BD : Option (Int × Str) → Dt
  | none => .non
  | some (m, k) => .tup [.int m, .str k]
theorem best_step (L : List (Option Int)) (b : Option (Int × Str)) (p : PR) (x : Dt) (h : den_room [.str p.1, LO L] = rok (OI p.2)) :
    (dSeq (dSet 3 (dCall den_room (aCons (dVar 2) (aCons (dVar 0) aNil)))) (dIfS (pAnd (dT (d2 dNotN (dVar 3) (dC .non))) (pOr (dT (d2 dIsN (dVar 1) (dC .non))) (dT (d2 dLt (dVar 3) (d2 dIx (dVar 1) (dC (.int 0))))))) (dSet 1 (dTup (aCons (dVar 3) (aCons (dVar 2) aNil)))) dNext)) [LO L, BD b, .str p.1, x] = rok (.nx [LO L, BD (stepB b p), .str p.1, OI p.2]) := by
  refine Eq.trans (seq_nx (set_to (Eq.trans (call_2 rfl rfl) h))) ?_
  obtain ⟨k, r⟩ := p
  cases r with
  | none => exact Eq.trans (ifS_f (and_f rfl)) rfl
  | some i =>
    cases b with
    | none => exact Eq.trans (ifS_t (Eq.trans (and_t rfl) (or_t rfl))) (set_to (tup2_to rfl rfl))
    | some b =>
      obtain ⟨m, k2⟩ := b
      have t : (dT (d2 dLt (dVar 3) (d2 dIx (dVar 1) (dC (.int 0))))) [LO L, BD (some (m, k2)), .str k, .int i] = rok (decide (i < m)) := t_to (Eq.trans (d2_to rfl (Eq.trans (d2_to rfl rfl) rfl)) (ev_lt _ _))
      by_cases c : i < m
      · rw [decide_eq_true c] at t
        refine Eq.trans (ifS_t (Eq.trans (and_t rfl) (Eq.trans (or_f rfl) t))) (Eq.trans (set_to (tup2_to rfl rfl)) ?_)
        show _ = rok (Fl.nx [LO L, BD (if i < m then some (i, k) else some (m, k2)), .str k, .int i])
        rw [if_pos c]
        rfl
      · rw [decide_eq_false c] at t
        refine Eq.trans (ifS_f (Eq.trans (and_t rfl) (Eq.trans (or_f rfl) t))) ?_
        show _ = rok (Fl.nx [LO L, BD (if i < m then some (i, k) else some (m, k2)), .str k, .int i])
        rw [if_neg c]
        rfl
theorem pairs (L : List (Option Int)) (h : Okl L) : ∃ P : List PR, P.map (·.1) = kinds ∧ (∀ p ∈ P, den_law_room [.str p.1, LO L] = rok (OI p.2) ∧ den_room [.str p.1, LO L] = rok (OI p.2)) ∧ (∃ i, some i ∈ P.map (·.2)) := by
  obtain ⟨r2, h2⟩ := room2 L h
  obtain ⟨r3, h3⟩ := room3 L h
  obtain ⟨r4, h4⟩ := room4 L h
  refine ⟨[("plain", some (11 + 24 * (L.length : Int))), ("runs", some (19 + 32 * (1 + (chgs L : Int)))), ("book", r2), ("base", r3), ("steps", r4)], rfl, ?_, ⟨11 + 24 * L.length, List.mem_cons_self⟩⟩
  intro p hp
  simp only [List.mem_cons, List.not_mem_nil, or_false] at hp
  rcases hp with rfl | rfl | rfl | rfl | rfl
  · exact room0 L h
  · exact room1 L h
  · exact h2
  · exact h3
  · exact h4
theorem best_ok (L : List (Option Int)) (P : List PR) (hP : P.map (·.1) = kinds) (h : ∀ p ∈ P, den_room [.str p.1, LO L] = rok (OI p.2)) (m : Int) (k : Str) (hb : best P = some (m, k)) : den_best_kind [LO L] = rok (.str k) := by
  obtain ⟨ρ', e, x, y, q⟩ := forL_inv (set := setN 2) (s := (dSeq (dSet 3 (dCall den_room (aCons (dVar 2) (aCons (dVar 0) aNil)))) (dIfS (pAnd (dT (d2 dNotN (dVar 3) (dC .non))) (pOr (dT (d2 dIsN (dVar 1) (dC .non))) (dT (d2 dLt (dVar 3) (d2 dIx (dVar 1) (dC (.int 0))))))) (dSet 1 (dTup (aCons (dVar 3) (aCons (dVar 2) aNil)))) dNext))) (fun p : PR => Dt.str p.1) (fun pre ρ => ∃ x y, ρ = [LO L, BD (best pre), x, y]) P [] [LO L, .non, .non, .non] ⟨_, _, rfl⟩ (by
    rintro pre p post ρ e ⟨x, y, rfl⟩
    have hp : p ∈ P := by rw [List.nil_append] at e; rw [e]; simp
    exact ⟨_, _, rfl, best_step L (best pre) p y (h p hp), _, _, by rw [best_snoc]⟩)
  rw [List.nil_append, hb] at q
  subst q
  have e2 : iTup (dC (.tup ((["plain", "runs", "book", "base", "steps"] : List Str).map Dt.str))) [LO L, .non, .non, .non] = rok (P.map fun p : PR => Dt.str p.1) := by
    have : (P.map fun p : PR => Dt.str p.1) = kinds.map Dt.str := by rw [← hP, List.map_map]; rfl
    rw [this]
    rfl
  exact fn_rt (Eq.trans (seq_nx (set_to rfl)) (Eq.trans (seq_nx (Eq.trans (for_to e2) e)) (ret_to (Eq.trans (d2_to rfl rfl) rfl) rfl)))
theorem findIdx_OI (l : List (Option Int)) (m : Int) : (l.map OI).findIdx (pyEq (.int m)) = l.findIdx (is m) := by
  rw [List.findIdx_map]
  congr 1
  funext o
  exact eqv_OI o (some m)
theorem law_best_ok (L : List (Option Int)) (P : List PR) (hP : P.map (·.1) = kinds) (h : ∀ p ∈ P, den_law_room [.str p.1, LO L] = rok (OI p.2)) (m : Int) (k : Str) (hm : some m ∈ P.map (·.2)) (hle : ∀ i, some i ∈ P.map (·.2) → m ≤ i)
    (hk : (P.map (·.1))[(P.map (·.2)).findIdx (is m)]? = some k) : den_law_best [LO L] = rok (.tup [.str k, .int m]) := by
  have hlen : (P.map (·.2)).length = 5 := by
    have := congrArg List.length hP
    rw [List.length_map] at this ⊢
    exact this
  have hks : (dLst (aCons (dC (.str "plain")) (aCons (dC (.str "runs")) (aCons (dC (.str "book")) (aCons (dC (.str "base")) (aCons (dC (.str "steps")) aNil)))))) [LO L, .non, .non, .non, .non, .non] = rok (.lst (P.map fun p : PR => Dt.str p.1)) := by
    have : (P.map fun p : PR => Dt.str p.1) = kinds.map Dt.str := by rw [← hP, List.map_map]; rfl
    rw [this]
    rfl
  have hr : dComp (iLst (dVar 1)) (setN 4) pYes (dCall den_law_room (aCons (dVar 4) (aCons (dVar 0) aNil))) [LO L, .lst (P.map fun p : PR => Dt.str p.1), .non, .non, .non, .non] = rok (.lst ((P.map (·.2)).map OI)) := by
    have e := comp_map (it := iLst (dVar 1)) (set := setN 4) (p := pYes) (f := dCall den_law_room (aCons (dVar 4) (aCons (dVar 0) aNil))) (ρ := [LO L, .lst (P.map fun p : PR => Dt.str p.1), .non, .non, .non, .non]) (fun p : PR => Dt.str p.1) (fun _ => true) (fun p => OI p.2) P (lst_to rfl) (by rw [List.length_map] at hlen; omega) (fun p hp => ⟨_, rfl, rfl, fun _ => Eq.trans (call_2 rfl rfl) (h p hp)⟩)
    rw [filterT] at e
    rw [List.map_map]
    exact e
  have hn := pick_ok (P.map (·.2)) (by omega) 5 2 [LO L, .lst (P.map fun p : PR => Dt.str p.1), .lst ((P.map (·.2)).map OI), .non, .non, .non] rfl (fun d => rfl)
  have hne : nums (P.map (·.2)) ≠ [] := fun e => by have := (nums_mem _ m).mpr hm; rw [e] at this; cases this
  have hmin : minI (nums (P.map (·.2))) = m := by
    obtain ⟨m1, m2⟩ := min_mem _ hne
    have a := hle _ ((nums_mem _ _).mp m1)
    have b := m2 m ((nums_mem _ m).mpr hm)
    omega
  have hlt : (P.map (·.2)).findIdx (is m) < (P.map (·.2)).length := List.findIdx_lt_length.mpr ⟨_, hm, decide_eq_true rfl⟩
  have hi : mIndex ((P.map (·.2)).map OI) (.int m) = rok (.int ((P.map (·.2)).findIdx (is m) : Nat)) := by
    unfold mIndex
    rw [findIdx_OI, List.length_map, decide_eq_true hlt, okN_LOI]
    rfl
  have hx : dIx (.lst (P.map fun p : PR => Dt.str p.1)) (.int ((P.map (·.2)).findIdx (is m) : Nat)) = rok (.str k) := by
    have : (P.map fun p : PR => Dt.str p.1) = (P.map (·.1)).map Dt.str := by rw [List.map_map]; rfl
    rw [this, ev_ixL, atI_map, atI_nat, hk]
    rfl
  have hml : dML mIndex (dVar 2) (dVar 3) [LO L, .lst (P.map fun p : PR => Dt.str p.1), .lst ((P.map (·.2)).map OI), .int m, .non, .non] = rok (.int ((P.map (·.2)).findIdx (is m) : Nat)) := by
    rw [ev_ML]
    exact hi
  have hc : dCall (one bMinL) (aCons (dComp (iLst (dVar 2)) (setN 5) (dT (d2 dNotN (dVar 5) (dC .non))) (dVar 5)) aNil) [LO L, .lst (P.map fun p : PR => Dt.str p.1), .lst ((P.map (·.2)).map OI), .non, .non, .non] = rok (.int m) := by
    rw [← hmin]
    exact Eq.trans (call_1 hn) (bMinL_to _ hne)
  exact fn_rt (Eq.trans (seq_nx (set_to hks)) (Eq.trans (seq_nx (set_to hr)) (Eq.trans (seq_nx (set_to hc)) (ret_to (tup2_to (Eq.trans (d2_to rfl hml) hx) rfl) rfl))))
theorem strOk_kinds : ∀ k ∈ kinds, PyData.strOk k = true := by decide +kernel
end VL

set_option Elab.async false
set_option linter.all false
set_option maxRecDepth 100000
set_option maxHeartbeats 1000000
namespace VL
open PySem PySem.Spec PyProof.Rows L2
abbrev LI (l : List Int) : Dt := .lst (l.map Dt.int)
abbrev LN (l : List Nat) : Dt := .lst (l.map fun n : Nat => Dt.int (n : Int))
theorem at_N (l : List Nat) (i : Nat) (h : i < l.length) : dIx (LN l) (.int (i : Int)) = rok (.int ((l.getD i 0 : Nat) : Int)) := by
  have e : l.getD i 0 = l[i] := by simp [List.getD, h]
  rw [ev_ixL, atI_map, atI_nat, List.getElem?_eq_getElem h, e]
  rfl
end VL

set_option Elab.async false
set_option linter.all false
set_option maxRecDepth 100000
set_option maxHeartbeats 1000000
namespace VL
open PySem PySem.Spec PyProof.Rows L2
/-- all that is known of a part -/
structure Part (X : List (Option Int)) (m : Int) (k : Str) : Prop where
  kd : k ∈ kinds
  bk : den_best_kind [LO X] = rok (.str k)
  lb : den_law_best [LO X] = rok (.tup [.str k, .int m])
  rm : den_room [.str k, LO X] = rok (.int m)
  hi : m ≤ 11 + 24 * X.length
theorem part_ok (X : List (Option Int)) (h : Okl X) (hs : X.length ≤ 64) : ∃ m k, Part X m k := by
  obtain ⟨P, hP, hr, i, hi⟩ := pairs X h
  rcases best_spec P with ⟨_, no⟩ | ⟨m, k, hb, hm, hle, hk⟩
  · obtain ⟨p, hp, e⟩ := List.mem_map.mp hi
    rw [no p hp] at e
    cases e
  have b1 := best_ok X P hP (fun p hp => (hr p hp).2) m k hb
  have b2 := law_best_ok X P hP (fun p hp => (hr p hp).1) m k hm hle hk
  have hlt : (P.map (·.2)).findIdx (is m) < (P.map (·.2)).length := List.findIdx_lt_length.mpr ⟨_, hm, decide_eq_true rfl⟩
  have hkk : k ∈ kinds := by
    have := List.mem_of_getElem? hk
    rw [hP] at this
    exact this
  have hlt' : (P.map (·.2)).findIdx (is m) < P.length := by rw [List.length_map] at hlt; exact hlt
  have h1 : (P[(P.map (·.2)).findIdx (is m)]'hlt').1 = k := by
    rw [List.getElem?_map, List.getElem?_eq_getElem hlt'] at hk
    injection hk
  have h2 : (P[(P.map (·.2)).findIdx (is m)]'hlt').2 = some m := by
    have e := List.findIdx_getElem (xs := P.map (·.2)) (p := is m) (w := hlt)
    rw [List.getElem_map] at e
    exact of_decide_eq_true e
  have rm : den_room [.str k, LO X] = rok (.int m) := by
    have := (hr _ (List.getElem_mem hlt')).2
    rw [h1, h2] at this
    exact this
  have hpl : m ≤ 11 + 24 * X.length := by
    obtain ⟨r0, h0⟩ : ∃ r : Int, some (11 + 24 * (X.length : Int)) ∈ P.map (·.2) := ⟨0, by
      have : P.map (·.1) = kinds := hP
      cases P with
      | nil => exact absurd this (by decide)
      | cons p P =>
        have e : p.1 = "plain" := by
          have := congrArg List.head? this
          injection this
        have q := (hr p List.mem_cons_self).2
        rw [e, (room0 X h).2] at q
        have : OI p.2 = OI (some (11 + 24 * (X.length : Int))) := by
          injection q with q
          injection q with q
          exact q.symm
        rw [List.map_cons, OI_inj this]
        exact List.mem_cons_self⟩
    exact hle _ h0
  exact ⟨m, k, hkk, b1, b2, rm, hpl⟩

end VL

set_option Elab.async false
set_option linter.all false
set_option maxRecDepth 100000
set_option maxHeartbeats 1000000
namespace VL
open PySem PySem.Spec PyProof.Rows L2
open Classical in
noncomputable def lr (X : List (Option Int)) : Int := if h : ∃ m k, Part X m k then h.choose else 0
open Classical in
noncomputable def kd (X : List (Option Int)) : Str := if h : ∃ m k, Part X m k then h.choose_spec.choose else ""
theorem part_lr (X : List (Option Int)) (h : Okl X) (hs : X.length ≤ 64) : Part X (lr X) (kd X) := by
  have e := part_ok X h hs
  unfold lr kd
  rw [dif_pos e, dif_pos e]
  exact e.choose_spec.choose_spec
def cut (V : List (Option Int)) (b e : Nat) : List (Option Int) := (V.drop b).take (e - b)
theorem cut_okl (V : List (Option Int)) (hV : ∀ o ∈ V, okV o) (hn : V.length ≤ 64) (b e : Nat) (h1 : b < e) (h2 : e ≤ V.length) : Okl (cut V b e) ∧ (cut V b e).length = e - b := by
  have hl : (cut V b e).length = e - b := by unfold cut; rw [List.length_take, List.length_drop]; omega
  exact ⟨⟨by omega, by omega, fun o ho => hV o (List.mem_of_mem_drop (List.mem_of_mem_take ho))⟩, hl⟩
theorem cut_part (V : List (Option Int)) (hV : ∀ o ∈ V, okV o) (hn : V.length ≤ 64) (b e : Nat) (h1 : b < e) (h2 : e ≤ V.length) : Part (cut V b e) (lr (cut V b e)) (kd (cut V b e)) := by
  obtain ⟨h, hl⟩ := cut_okl V hV hn b e h1 h2
  exact part_lr _ h (by omega)
theorem cut_be (l : List Dt) (b e : Nat) (h1 : b ≤ e) (h2 : e ≤ l.length) : cutD l (some (b : Int)) (some (e : Int)) = (l.drop b).take (e - b) := by
  unfold cutD
  rw [HT.sIx_nat, HT.sIx_nat, Nat.min_eq_left (show b ≤ l.length by omega), Nat.min_eq_left h2]
theorem slice_to {f l u : List Dt → R Dt} {ρ : List Dt} {V : List (Option Int)} {b e : Nat} (h : f ρ = rok (LO V)) (hl : l ρ = rok (.int (b : Int))) (hu : u ρ = rok (.int (e : Int))) (h1 : b ≤ e) (h2 : e ≤ V.length) : dSl sliceL f (oSome l) (oSome u) ρ = rok (LO (cut V b e)) := by
  simp only [ev_Sl, ev_oSome, h, hl, hu, rbind_ok, ev_oInt, ev_sliceL]
  rw [cut_be _ b e h1 (by rw [List.length_map]; exact h2), ← List.map_drop, ← List.map_take]
  rfl
theorem least_ok (X : List (Option Int)) (m : Int) (k : Str) (p : Part X m k) : den_least_room [LO X] = rok (.int m) :=
  fn_rt (ret_to (Eq.trans (call_2 (Eq.trans (call_1 rfl) p.bk) rfl) p.rm) rfl)
/-! ### prices -/
noncomputable def prl (V : List (Option Int)) : Nat → List Int
  | 0 => [0]
  | n + 1 => prl V n ++ [minI ((List.range (n + 1)).map fun b => (prl V n).getD b 0 + lr (cut V b (n + 1)))]
theorem prl_len (V : List (Option Int)) : ∀ n, (prl V n).length = n + 1
  | 0 => rfl
  | n + 1 => by rw [prl, List.length_append, prl_len V n]; rfl
theorem look_col (V : List (Option Int)) (hV : ∀ o ∈ V, okV o) (hn : V.length ≤ 64) : den_look_column [LO V] = rok .non := by
  have t : dT (d2 dGt (dCall (one bLen) (aCons (dVar 0) aNil)) (dC (.int 64))) [LO V] = rok false := by
    refine t_to (Eq.trans (d2_to (len_to rfl) rfl) ?_)
    rw [ev_gt, decide_eq_false (by omega)]
  cases V with
  | nil => exact fn_nx (Eq.trans (skip t) (Eq.trans (ifS_f rfl) rfl))
  | cons x V =>
    have hl : (x :: V).length = V.length + 1 := rfl
    exact fn_nx (Eq.trans (skip t) (Eq.trans (ifS_t rfl) (drop_to (Eq.trans (call_1 rfl) (look_ok _ ⟨by omega, by omega, hV⟩)))))
theorem at_I' (M : List Int) (i : Nat) (h : i < M.length) : dIx (LI M) (.int (i : Int)) = rok (.int (M.getD i 0)) := at_I M i h
/-- one price, either way -/
theorem price_step (V : List (Option Int)) (hV : ∀ o ∈ V, okV o) (hn : V.length ≤ 64) (n : Nat) (h : n + 1 ≤ V.length) (x : Dt) (el : List Dt → R Dt)
    (hel : ∀ b : Nat, b < n + 1 → el [LO V, LI (prl V n), .int ((n + 1 : Nat) : Int), .int (b : Int)] = rok (.int ((prl V n).getD b 0 + lr (cut V b (n + 1))))) :
    dAppend 1 (dCall (one bMinL) (aCons (dComp (iRng (aCons (dVar 2) aNil) rng1) (setN 3) pYes el) aNil)) [LO V, LI (prl V n), .int ((n + 1 : Nat) : Int), x] = rok (.nx [LO V, LI (prl V (n + 1)), .int ((n + 1 : Nat) : Int), x]) := by
  have c1 := comp_map (it := iRng (aCons (dVar 2) aNil) rng1) (set := setN 3) (p := pYes) (f := el) (ρ := [LO V, LI (prl V n), .int ((n + 1 : Nat) : Int), x]) (fun i : Nat => Dt.int (0 + (i : Int))) (fun _ => true) (fun b => Dt.int ((prl V n).getD b 0 + lr (cut V b (n + 1)))) (List.range (n + 1)) (by
    rw [iRng1_to (a := ((n + 1 : Nat) : Int)) rfl (by omega), rng_eq, Int.toNat_natCast]) (by rw [List.length_range]; omega) (by
    intro i hi
    have e0 : (0 : Int) + (i : Int) = (i : Int) := by omega
    exact ⟨[LO V, LI (prl V n), .int ((n + 1 : Nat) : Int), .int (i : Int)], by rw [e0]; rfl, rfl, fun _ => hel i (List.mem_range.mp hi)⟩)
  rw [filterT] at c1
  have e1 : ((List.range (n + 1)).map fun b => Dt.int ((prl V n).getD b 0 + lr (cut V b (n + 1)))) = ((List.range (n + 1)).map fun b => (prl V n).getD b 0 + lr (cut V b (n + 1))).map Dt.int := by rw [List.map_map]; rfl
  rw [e1] at c1
  have hne : ((List.range (n + 1)).map fun b => (prl V n).getD b 0 + lr (cut V b (n + 1))) ≠ [] := by simp
  have a := app_to (i := 1) (ρ := [LO V, LI (prl V n), .int ((n + 1 : Nat) : Int), x]) (Eq.trans (call_1 (h := one bMinL) c1) (bMinL_to _ hne)) rfl (by rw [List.length_map, prl_len]; omega)
  refine Eq.trans a ?_
  have : LI (prl V (n + 1)) = .lst ((prl V n).map Dt.int ++ [.int (minI ((List.range (n + 1)).map fun b => (prl V n).getD b 0 + lr (cut V b (n + 1))))]) := by
    show Dt.lst ((prl V n ++ [_]).map Dt.int) = _
    rw [List.map_append]
    rfl
  rw [this]
  rfl
theorem price_for (V : List (Option Int)) (hV : ∀ o ∈ V, okV o) (hn : V.length ≤ 64) (el : List Dt → R Dt)
    (hel : ∀ n b : Nat, b < n + 1 → n + 1 ≤ V.length → el [LO V, LI (prl V n), .int ((n + 1 : Nat) : Int), .int (b : Int)] = rok (.int ((prl V n).getD b 0 + lr (cut V b (n + 1))))) :
    ∃ x y, dFor (iRng (aCons (dC (.int 1)) (aCons (d2 dAdd (dCall (one bLen) (aCons (dVar 0) aNil)) (dC (.int 1))) aNil)) rng2) (setN 2) (dAppend 1 (dCall (one bMinL) (aCons (dComp (iRng (aCons (dVar 2) aNil) rng1) (setN 3) pYes el) aNil))) [LO V, LI (prl V 0), .non, .non] = rok (.nx [LO V, LI (prl V V.length), x, y]) := by
  have hr : iRng (aCons (dC (.int 1)) (aCons (d2 dAdd (dCall (one bLen) (aCons (dVar 0) aNil)) (dC (.int 1))) aNil)) rng2 [LO V, LI (prl V 0), .non, .non] = rok ((List.range V.length).map fun i : Nat => Dt.int (1 + (i : Int))) := by
    rw [iRng2_to (a := 1) (b := (V.length : Int) + 1) rfl (Eq.trans (d2_to (len_to rfl) rfl) (ev_add _ _)) (by omega), rng_eq]
    have : ((V.length : Int) + 1 - 1).toNat = V.length := by omega
    rw [this]
  obtain ⟨ρ', h1, x, y, q⟩ := forL_inv (set := setN 2) (s := dAppend 1 (dCall (one bMinL) (aCons (dComp (iRng (aCons (dVar 2) aNil) rng1) (setN 3) pYes el) aNil))) (fun i : Nat => Dt.int (1 + (i : Int))) (fun pre ρ => ∃ x y, ρ = [LO V, LI (prl V pre.length), x, y]) (List.range V.length) [] [LO V, LI (prl V 0), .non, .non] ⟨_, _, rfl⟩ (by
    rintro pre i post ρ e ⟨x, y, rfl⟩
    rw [List.nil_append] at e
    have hi : i = pre.length := by
      have h0 : (List.range V.length)[pre.length]? = some i := by rw [e, List.getElem?_append_right (Nat.le_refl _), Nat.sub_self]; rfl
      obtain ⟨_, h2⟩ := List.getElem?_eq_some_iff.mp h0
      rw [List.getElem_range] at h2
      exact h2.symm
    have hlt : i < V.length := List.mem_range.mp (by rw [e]; simp)
    subst hi
    have e1 : (1 : Int) + (pre.length : Int) = ((pre.length + 1 : Nat) : Int) := by omega
    refine ⟨[LO V, LI (prl V pre.length), .int ((pre.length + 1 : Nat) : Int), y], _, by rw [e1]; rfl, price_step V hV hn pre.length (by omega) y el (fun b hb => hel pre.length b hb (by omega)), .int ((pre.length + 1 : Nat) : Int), y, ?_⟩
    rw [List.length_append]
    rfl)
  rw [List.nil_append, List.length_range] at q
  subst q
  exact ⟨x, y, Eq.trans (for_to hr) h1⟩
theorem prices_ok (V : List (Option Int)) (hV : ∀ o ∈ V, okV o) (hn : V.length ≤ 64) : den_prices [LO V] = rok (LI (prl V V.length)) := by
  obtain ⟨x, y, e⟩ := price_for V hV hn (d2 dAdd (d2 dIx (dVar 1) (dVar 3)) (dCall den_least_room (aCons (dSl sliceL (dVar 0) (oSome (dVar 3)) (oSome (dVar 2))) aNil))) (fun n b hb hv =>
    Eq.trans (d2_to (Eq.trans (d2_to rfl rfl) (at_I' _ b (by rw [prl_len]; omega))) (Eq.trans (call_1 (slice_to rfl rfl rfl (by omega) hv)) (least_ok _ _ _ (cut_part V hV hn b (n + 1) hb hv)))) (ev_add _ _))
  exact fn_rt (Eq.trans (seq_nx (drop_to (Eq.trans (call_1 rfl) (look_col V hV hn)))) (Eq.trans (seq_nx (set_to rfl)) (Eq.trans (seq_nx e) (ret_to rfl rfl))))
end VL

set_option Elab.async false
set_option linter.all false
set_option maxRecDepth 100000
set_option maxHeartbeats 1000000
namespace VL
open PySem PySem.Spec PyProof.Rows L2
/-- a walk that may end with d -/
theorem forL_opt {α S : Type} {set : Dt → List Dt → Option (List Dt)} {s : List Dt → R Fl} (φ : α → Dt) (d : Dt) (step : S → α → Option S) (J : S → List Dt → Prop) : ∀ (L : List α) (z : S) (ρ : List Dt), J z ρ →
    (∀ z a ρ, a ∈ L → J z ρ → ∃ ρ1, set (φ a) ρ = some ρ1 ∧ (step z a = none → s ρ1 = rok (.rt d)) ∧ ∀ z', step z a = some z' → ∃ ρ2, s ρ1 = rok (.nx ρ2) ∧ J z' ρ2) →
    (L.foldlM step z = none → dForL set s (L.map φ) ρ = rok (.rt d)) ∧ ∀ z', L.foldlM step z = some z' → ∃ ρ', dForL set s (L.map φ) ρ = rok (.nx ρ') ∧ J z' ρ'
  | [], z, ρ, h, _ => ⟨fun e => (by cases e), fun z' e => by cases e; exact ⟨ρ, rfl, h⟩⟩
  | a :: L, z, ρ, h, k => by
    obtain ⟨ρ1, h1, h2, h3⟩ := k z a ρ List.mem_cons_self h
    rw [List.foldlM_cons, List.map_cons, dForL, h1]
    cases q : step z a with
    | none =>
      refine ⟨fun _ => ?_, fun z' e => by cases e⟩
      simp only [Option.map_some, rbind_ok', h2 q, rbind_ok]
    | some z1 =>
      obtain ⟨ρ2, h4, h5⟩ := h3 z1 q
      have ih := forL_opt φ d step J L z1 ρ2 h5 fun z a ρ ha => k z a ρ (List.mem_cons_of_mem _ ha)
      simp only [Option.map_some, rbind_ok', h4, rbind_ok]
      exact ih
/-- a walk that asks each -/
theorem forL_all {α : Type} {set : Dt → List Dt → Option (List Dt)} {s : List Dt → R Fl} (φ : α → Dt) (d : Dt) (P : α → Bool) (J : List Dt → Prop) : ∀ (L : List α) (ρ : List Dt), J ρ →
    (∀ a ρ, a ∈ L → J ρ → ∃ ρ1, set (φ a) ρ = some ρ1 ∧ (P a = false → s ρ1 = rok (.rt d)) ∧ (P a = true → ∃ ρ2, s ρ1 = rok (.nx ρ2) ∧ J ρ2)) →
    (L.all P = false → dForL set s (L.map φ) ρ = rok (.rt d)) ∧ (L.all P = true → ∃ ρ', dForL set s (L.map φ) ρ = rok (.nx ρ') ∧ J ρ')
  | [], ρ, h, _ => ⟨fun e => (by cases e), fun _ => ⟨ρ, rfl, h⟩⟩
  | a :: L, ρ, h, k => by
    obtain ⟨ρ1, h1, h2, h3⟩ := k a ρ List.mem_cons_self h
    rw [List.all_cons, List.map_cons, dForL, h1]
    cases q : P a with
    | false =>
      refine ⟨fun _ => ?_, fun e => by simp at e⟩
      simp only [Option.map_some, rbind_ok', h2 q, rbind_ok]
    | true =>
      obtain ⟨ρ2, h4, h5⟩ := h3 q
      have ih := forL_all φ d P J L ρ2 h5 fun a ρ ha => k a ρ (List.mem_cons_of_mem _ ha)
      simp only [Option.map_some, rbind_ok', h4, rbind_ok, Bool.true_and]
      exact ih
theorem chain_to {f1 f2 f3 : List Dt → R Dt} {ρ : List Dt} {a b c : Int} (h1 : f1 ρ = rok (.int a)) (h2 : f2 ρ = rok (.int b)) (h3 : f3 ρ = rok (.int c)) : d3 dLt dLe f1 f2 f3 ρ = rok (.bl (decide (a < b ∧ b ≤ c))) := by
  simp only [ev_d3, h1, h2, h3, rbind_ok, ev_lt, ev_dBool, ev_le]
  by_cases h : a < b
  · simp only [h, decide_true, if_true, true_and]
  · simp only [h, decide_false, if_false, false_and, Bool.false_eq_true]
theorem at_Ie (M : List Int) (e : Int) (h0 : 0 ≤ e) (h : e.toNat < M.length) : dIx (LI M) (.int e) = rok (.int (M.getD e.toNat 0)) := by
  have := at_I' M e.toNat h
  rw [Int.toNat_of_nonneg h0] at this
  exact this
theorem or_to {p1 p2 : List Dt → R Bool} {ρ : List Dt} {a b : Bool} (h1 : p1 ρ = rok a) (h2 : a = false → p2 ρ = rok b) : pOr p1 p2 ρ = rok (a || b) := by
  cases a with
  | true => exact or_t h1
  | false => exact Eq.trans (or_f h1) (h2 rfl)
noncomputable def stepE (V : List (Option Int)) (S : List Int) (b : Nat) (e : Int) : Option Nat :=
  if (b : Int) < e ∧ e ≤ V.length then (if S.getD e.toNat 0 = S.getD b 0 + lr (cut V b e.toNat) then some e.toNat else none) else none
abbrev sTest (el : List Dt → R Dt) : List Dt → R Fl := dSeq (dIfS (pOr (pNot (dT (d3 dLt dLe (dVar 3) (dVar 4) (dCall (one bLen) (aCons (dVar 0) aNil))))) (dT (d2 dNe (d2 dIx (dVar 2) (dVar 4)) (d2 dAdd (d2 dIx (dVar 2) (dVar 3)) el)))) (dRet .flat (dC (.bl false))) dNext) (dSet 3 (dVar 4))
theorem shows_for (V : List (Option Int)) (E S : List Int) (hS : S.length = V.length + 1) (tl : List Dt) (x : Dt) (el : List Dt → R Dt)
    (hel : ∀ b e : Nat, b < e → e ≤ V.length → el (LO V :: LI E :: LI S :: .int (b : Int) :: .int (e : Int) :: tl) = rok (.int (lr (cut V b e)))) :
    (E.foldlM (stepE V S) 0 = none → dFor (iLst (dVar 1)) (setN 4) (sTest el) (LO V :: LI E :: LI S :: .int 0 :: x :: tl) = rok (.rt (.bl false))) ∧
    ∀ z, E.foldlM (stepE V S) 0 = some z → ∃ y, dFor (iLst (dVar 1)) (setN 4) (sTest el) (LO V :: LI E :: LI S :: .int 0 :: x :: tl) = rok (.nx (LO V :: LI E :: LI S :: .int (z : Int) :: y :: tl)) := by
  have q := forL_opt (set := setN 4) (s := sTest el) Dt.int (.bl false) (stepE V S) (fun (b : Nat) ρ => b ≤ V.length ∧ ∃ y, ρ = LO V :: LI E :: LI S :: .int (b : Int) :: y :: tl) E 0 (LO V :: LI E :: LI S :: .int 0 :: x :: tl) ⟨Nat.zero_le _, x, rfl⟩ (by
    rintro b e ρ _ ⟨hb, y, rfl⟩
    refine ⟨LO V :: LI E :: LI S :: .int (b : Int) :: .int e :: tl, rfl, ?_⟩
    have t1 : pNot (dT (d3 dLt dLe (dVar 3) (dVar 4) (dCall (one bLen) (aCons (dVar 0) aNil)))) (LO V :: LI E :: LI S :: .int (b : Int) :: .int e :: tl) = rok (!decide ((b : Int) < e ∧ e ≤ V.length)) :=
      not_to (t_to (chain_to rfl rfl (len_to rfl)))
    by_cases c : (b : Int) < e ∧ e ≤ V.length
    · rw [decide_eq_true c] at t1
      have he : ((e.toNat : Nat) : Int) = e := Int.toNat_of_nonneg (by omega)
      have hl := hel b e.toNat (by omega) (by omega)
      rw [he] at hl
      have t2 : dT (d2 dNe (d2 dIx (dVar 2) (dVar 4)) (d2 dAdd (d2 dIx (dVar 2) (dVar 3)) el)) (LO V :: LI E :: LI S :: .int (b : Int) :: .int e :: tl) = rok (!decide (S.getD e.toNat 0 = S.getD b 0 + lr (cut V b e.toNat))) :=
        t_to (Eq.trans (d2_to (Eq.trans (d2_to rfl rfl) (at_Ie S e (by omega) (by omega))) (Eq.trans (d2_to (Eq.trans (d2_to rfl rfl) (at_I' S b (by omega))) hl) (ev_add _ _))) (ev_neI _ _))
      have t := Eq.trans (or_f (p1 := pNot (dT (d3 dLt dLe (dVar 3) (dVar 4) (dCall (one bLen) (aCons (dVar 0) aNil))))) t1) t2
      by_cases k : S.getD e.toNat 0 = S.getD b 0 + lr (cut V b e.toNat)
      · have hs : stepE V S b e = some e.toNat := by unfold stepE; rw [if_pos c, if_pos k]
        rw [hs]
        refine ⟨fun z => (by cases z), fun z' ez => ?_⟩
        cases ez
        rw [decide_eq_true k] at t
        refine ⟨LO V :: LI E :: LI S :: .int e :: .int e :: tl, Eq.trans (skip t) (set_to rfl), by omega, _, by rw [he]⟩
      · have hs : stepE V S b e = none := by unfold stepE; rw [if_pos c, if_neg k]
        rw [hs]
        rw [decide_eq_false k] at t
        exact ⟨fun _ => take_ t (ret_to rfl rfl), fun z' ez => by cases ez⟩
    · rw [decide_eq_false c] at t1
      have hs : stepE V S b e = none := by unfold stepE; rw [if_neg c]
      rw [hs]
      exact ⟨fun _ => take_ (or_t t1) (ret_to rfl rfl), fun z' ez => by cases ez⟩)
  refine ⟨fun e => Eq.trans (for_to (lst_to rfl)) (q.1 e), fun z e => ?_⟩
  obtain ⟨ρ', h1, _, y, rfl⟩ := q.2 z e
  exact ⟨y, Eq.trans (for_to (lst_to rfl)) h1⟩
def lastE (E : List Int) : Int := E.getLast?.getD 0
noncomputable def leq (V : List (Option Int)) (S : List Int) (e b : Nat) : Bool := decide (S.getD e 0 ≤ S.getD b 0 + lr (cut V b e))
noncomputable def least (V : List (Option Int)) (S : List Int) : Bool := (List.range V.length).all fun i => (List.range (i + 1)).all fun b => leq V S (i + 1) b
noncomputable def showsB (V : List (Option Int)) (E S : List Int) : Bool := (decide (S.length = V.length + 1) && (decide (S.getD 0 0 = 0) && decide (lastE E = V.length))) && ((E.foldlM (stepE V S) 0).isSome && least V S)
theorem shows_least (V : List (Option Int)) (E S : List Int) (hS : S.length = V.length + 1) (hn : V.length ≤ 1000) (x y : Dt) (el : List Dt → R Dt)
    (hel : ∀ b e : Nat, b < e → e ≤ V.length → el [LO V, LI E, LI S, .int (b : Int), .int (e : Int)] = rok (.int (lr (cut V b e)))) :
    dSeq (dFor (iRng (aCons (dC (.int 1)) (aCons (d2 dAdd (dCall (one bLen) (aCons (dVar 0) aNil)) (dC (.int 1))) aNil)) rng2) (setN 4) (dFor (iRng (aCons (dVar 4) aNil) rng1) (setN 3) (dIfS (dT (d2 dGt (d2 dIx (dVar 2) (dVar 4)) (d2 dAdd (d2 dIx (dVar 2) (dVar 3)) el))) (dRet .flat (dC (.bl false))) dNext))) (dRet .flat (dC (.bl true)))
    [LO V, LI E, LI S, x, y] = rok (.rt (.bl (least V S))) := by
  have inner : ∀ (i : Nat) (x : Dt), i < V.length → ((List.range (i + 1)).all (leq V S (i + 1)) = false → dFor (iRng (aCons (dVar 4) aNil) rng1) (setN 3) (dIfS (dT (d2 dGt (d2 dIx (dVar 2) (dVar 4)) (d2 dAdd (d2 dIx (dVar 2) (dVar 3)) el))) (dRet .flat (dC (.bl false))) dNext) [LO V, LI E, LI S, x, .int ((i + 1 : Nat) : Int)] = rok (.rt (.bl false))) ∧
      ((List.range (i + 1)).all (leq V S (i + 1)) = true → ∃ ρ', dFor (iRng (aCons (dVar 4) aNil) rng1) (setN 3) (dIfS (dT (d2 dGt (d2 dIx (dVar 2) (dVar 4)) (d2 dAdd (d2 dIx (dVar 2) (dVar 3)) el))) (dRet .flat (dC (.bl false))) dNext) [LO V, LI E, LI S, x, .int ((i + 1 : Nat) : Int)] = rok (.nx ρ') ∧ ∃ x', ρ' = [LO V, LI E, LI S, x', .int ((i + 1 : Nat) : Int)]) := by
    intro i x hi
    have hr : iRng (aCons (dVar 4) aNil) rng1 [LO V, LI E, LI S, x, .int ((i + 1 : Nat) : Int)] = rok ((List.range (i + 1)).map fun b : Nat => Dt.int (0 + (b : Int))) := by
      rw [iRng1_to (a := ((i + 1 : Nat) : Int)) rfl (by omega), rng_eq, Int.toNat_natCast]
    have q := forL_all (set := setN 3) (s := dIfS (dT (d2 dGt (d2 dIx (dVar 2) (dVar 4)) (d2 dAdd (d2 dIx (dVar 2) (dVar 3)) el))) (dRet .flat (dC (.bl false))) dNext) (fun b : Nat => Dt.int (0 + (b : Int))) (.bl false) (leq V S (i + 1)) (fun ρ => ∃ x', ρ = [LO V, LI E, LI S, x', .int ((i + 1 : Nat) : Int)]) (List.range (i + 1)) [LO V, LI E, LI S, x, .int ((i + 1 : Nat) : Int)] ⟨x, rfl⟩ (by
      rintro b ρ hb ⟨x', rfl⟩
      have hb := List.mem_range.mp hb
      have e0 : (0 : Int) + (b : Int) = (b : Int) := by omega
      refine ⟨[LO V, LI E, LI S, .int (b : Int), .int ((i + 1 : Nat) : Int)], by rw [e0]; rfl, ?_⟩
      have t : dT (d2 dGt (d2 dIx (dVar 2) (dVar 4)) (d2 dAdd (d2 dIx (dVar 2) (dVar 3)) el)) [LO V, LI E, LI S, .int (b : Int), .int ((i + 1 : Nat) : Int)] = rok (decide (S.getD b 0 + lr (cut V b (i + 1)) < S.getD (i + 1) 0)) :=
        t_to (Eq.trans (d2_to (Eq.trans (d2_to rfl rfl) (at_I' S (i + 1) (by omega))) (Eq.trans (d2_to (Eq.trans (d2_to rfl rfl) (at_I' S b (by omega))) (hel b (i + 1) hb (by omega))) (ev_add _ _))) (ev_gt _ _))
      refine ⟨fun z => ?_, fun z => ?_⟩
      · have := of_decide_eq_false z
        rw [decide_eq_true (by omega)] at t
        exact Eq.trans (ifS_t t) (ret_to rfl rfl)
      · have := of_decide_eq_true z
        rw [decide_eq_false (by omega)] at t
        exact ⟨_, Eq.trans (ifS_f t) rfl, _, rfl⟩)
    exact ⟨fun e => Eq.trans (for_to hr) (q.1 e), fun e => by
      obtain ⟨ρ', h1, h2⟩ := q.2 e
      exact ⟨ρ', Eq.trans (for_to hr) h1, h2⟩⟩
  have hr : iRng (aCons (dC (.int 1)) (aCons (d2 dAdd (dCall (one bLen) (aCons (dVar 0) aNil)) (dC (.int 1))) aNil)) rng2 [LO V, LI E, LI S, x, y] = rok ((List.range V.length).map fun i : Nat => Dt.int (1 + (i : Int))) := by
    rw [iRng2_to (a := 1) (b := (V.length : Int) + 1) rfl (Eq.trans (d2_to (len_to rfl) rfl) (ev_add _ _)) (by omega), rng_eq]
    have : ((V.length : Int) + 1 - 1).toNat = V.length := by omega
    rw [this]
  have q := forL_all (set := setN 4) (s := dFor (iRng (aCons (dVar 4) aNil) rng1) (setN 3) (dIfS (dT (d2 dGt (d2 dIx (dVar 2) (dVar 4)) (d2 dAdd (d2 dIx (dVar 2) (dVar 3)) el))) (dRet .flat (dC (.bl false))) dNext)) (fun i : Nat => Dt.int (1 + (i : Int))) (.bl false) (fun i => (List.range (i + 1)).all (leq V S (i + 1))) (fun ρ => ∃ x y, ρ = [LO V, LI E, LI S, x, y]) (List.range V.length) [LO V, LI E, LI S, x, y] ⟨x, y, rfl⟩ (by
    rintro i ρ hi ⟨x, y, rfl⟩
    have hi := List.mem_range.mp hi
    have e1 : (1 : Int) + (i : Int) = ((i + 1 : Nat) : Int) := by omega
    refine ⟨[LO V, LI E, LI S, x, .int ((i + 1 : Nat) : Int)], by rw [e1]; rfl, (inner i x hi).1, fun z => ?_⟩
    obtain ⟨ρ', h1, x', h2⟩ := (inner i x hi).2 z
    exact ⟨ρ', h1, x', _, h2⟩)
  unfold least
  cases c : (List.range V.length).all (fun i => (List.range (i + 1)).all (leq V S (i + 1))) with
  | false => exact seq_rt (Eq.trans (for_to hr) (q.1 c))
  | true =>
    obtain ⟨ρ', h1, _, _, rfl⟩ := q.2 c
    exact Eq.trans (seq_nx (Eq.trans (for_to hr) h1)) (ret_to rfl rfl)
theorem last_to (E : List Int) (ρ : List Dt) (v : Dt) : dIf (dTr (dVar 1)) (d2 dIx (dVar 1) (d1 dNeg (dC (.int 1)))) (dC (.int 0)) (v :: LI E :: ρ) = rok (.int (lastE E)) := by
  by_cases h : E = []
  · subst h
    exact if_f rfl
  · obtain ⟨l, a, rfl⟩ := len_last E h
    have e : LI (l ++ [a]) = .lst (l.map Dt.int ++ [.int a]) := by show Dt.lst ((l ++ [a]).map Dt.int) = _; rw [List.map_append]; rfl
    rw [e]
    refine Eq.trans (if_t (Eq.trans (tr_to rfl) (tru_snoc _ _))) (Eq.trans (d2_to (b := .int (-1)) rfl rfl) ?_)
    rw [ev_ixL, atI_last]
    unfold lastE
    rw [List.getLast?_append]
    rfl
theorem shows_ok (V : List (Option Int)) (hV : ∀ o ∈ V, okV o) (hn : V.length ≤ 64) (E S : List Int) : den_shows [LO V, LI E, LI S] = rok (.bl (showsB V E S)) := by
  have lk : dDrop (dCall den_look_column (aCons (dVar 0) aNil)) [LO V, LI E, LI S, .non, .non] = rok (.nx [LO V, LI E, LI S, .non, .non]) := drop_to (Eq.trans (call_1 rfl) (look_col V hV hn))
  have t1 : dT (d2 dNe (dCall (one bLen) (aCons (dVar 2) aNil)) (d2 dAdd (dCall (one bLen) (aCons (dVar 0) aNil)) (dC (.int 1)))) [LO V, LI E, LI S, .non, .non] = rok (!decide (S.length = V.length + 1)) := by
    refine t_to (Eq.trans (d2_to (Eq.trans (call_1 rfl) (ev_lenL _)) (Eq.trans (d2_to (len_to rfl) rfl) (ev_add _ _))) ?_)
    rw [List.length_map, ev_neI]
    congr 2
    by_cases c : S.length = V.length + 1
    · rw [decide_eq_true c, decide_eq_true (by omega)]
    · rw [decide_eq_false c, decide_eq_false (by omega)]
  unfold showsB
  refine fn_rt (Eq.trans (seq_nx lk) ?_)
  by_cases c1 : S.length = V.length + 1
  · rw [decide_eq_true c1] at t1 ⊢
    have t2 : dT (d2 dNe (d2 dIx (dVar 2) (dC (.int 0))) (dC (.int 0))) [LO V, LI E, LI S, .non, .non] = rok (!decide (S.getD 0 0 = 0)) :=
      t_to (Eq.trans (d2_to (Eq.trans (d2_to rfl rfl) (at_I' S 0 (by omega))) rfl) (ev_neI _ _))
    have t3 : dT (d2 dNe (dIf (dTr (dVar 1)) (d2 dIx (dVar 1) (d1 dNeg (dC (.int 1)))) (dC (.int 0))) (dCall (one bLen) (aCons (dVar 0) aNil))) [LO V, LI E, LI S, .non, .non] = rok (!decide (lastE E = V.length)) :=
      t_to (Eq.trans (d2_to (last_to E _ _) (len_to rfl)) (ev_neI _ _))
    by_cases c2 : S.getD 0 0 = 0 ∧ lastE E = V.length
    · rw [decide_eq_true c2.1] at t2 ⊢
      rw [decide_eq_true c2.2] at t3 ⊢
      refine Eq.trans (skip (Eq.trans (or_f t1) (Eq.trans (or_f t2) t3))) (Eq.trans (seq_nx (set_to rfl)) ?_)
      have hel : ∀ b e : Nat, b < e → e ≤ V.length → dCall den_least_room (aCons (dSl sliceL (dVar 0) (oSome (dVar 3)) (oSome (dVar 4))) aNil) [LO V, LI E, LI S, .int (b : Int), .int (e : Int)] = rok (.int (lr (cut V b e))) := fun b e h1 h2 =>
        Eq.trans (call_1 (slice_to rfl rfl rfl (by omega) h2)) (least_ok _ _ _ (cut_part V hV hn b e h1 h2))
      have f1 := shows_for V E S c1 [] .non _ hel
      cases q : E.foldlM (stepE V S) 0 with
      | none => exact seq_rt (f1.1 q)
      | some z =>
        obtain ⟨y, e⟩ := f1.2 z q
        exact Eq.trans (seq_nx e) (shows_least V E S c1 (by omega) _ _ _ hel)
    · have hf : (decide (S.getD 0 0 = 0) && decide (lastE E = V.length)) = false := by
        rw [← Bool.not_eq_true, Bool.and_eq_true, decide_eq_true_eq, decide_eq_true_eq]
        exact c2
      rw [hf]
      refine take_ (Eq.trans (or_f t1) (Eq.trans (or_to t2 fun _ => t3) ?_)) (ret_to rfl rfl)
      rw [← Bool.not_and, hf]
      rfl
  · rw [decide_eq_false c1] at t1 ⊢
    exact take_ (or_t t1) (ret_to rfl rfl)
end VL

set_option Elab.async false
set_option linter.all false
set_option maxRecDepth 100000
set_option maxHeartbeats 1000000
namespace VL
open PySem PySem.Spec PyProof.Rows L2
theorem prl_get (V : List (Option Int)) (i m : Nat) (h : i ≤ m) : ∀ n, m ≤ n → (prl V n).getD i 0 = (prl V m).getD i 0
  | 0, h2 => by have : m = 0 := by omega
                subst this; rfl
  | n + 1, h2 => by
    rcases Nat.lt_or_ge m (n + 1) with c | c
    · rw [prl, List.getD_eq_getElem?_getD, List.getElem?_append_left (by rw [prl_len]; omega), ← List.getD_eq_getElem?_getD]
      exact prl_get V i m h n (by omega)
    · have : m = n + 1 := by omega
      subst this; rfl
theorem prl_at (V : List (Option Int)) (n m : Nat) (h : m + 1 ≤ n) : (prl V n).getD (m + 1) 0 = minI ((List.range (m + 1)).map fun b => (prl V n).getD b 0 + lr (cut V b (m + 1))) := by
  rw [prl_get V (m + 1) (m + 1) (Nat.le_refl _) n h, prl, List.getD_eq_getElem?_getD, List.getElem?_append_right (by rw [prl_len]; omega), prl_len, Nat.sub_self]
  show minI _ = minI _
  congr 1
  refine List.map_congr_left fun b hb => ?_
  rw [prl_get V b m (by have := List.mem_range.mp hb; omega) n (by omega)]
theorem price_le (V : List (Option Int)) (n b e : Nat) (h : b < e) (he : e ≤ n) : (prl V n).getD e 0 ≤ (prl V n).getD b 0 + lr (cut V b e) := by
  obtain ⟨m, rfl⟩ : ∃ m, e = m + 1 := ⟨e - 1, by omega⟩
  rw [prl_at V n m he]
  exact (min_mem _ (by simp)).2 _ (List.mem_map.mpr ⟨b, List.mem_range.mpr h, rfl⟩)
theorem price_ex (V : List (Option Int)) (n e : Nat) (h : 1 ≤ e) (he : e ≤ n) : ∃ b, b < e ∧ (prl V n).getD b 0 + lr (cut V b e) = (prl V n).getD e 0 := by
  obtain ⟨m, rfl⟩ : ∃ m, e = m + 1 := ⟨e - 1, by omega⟩
  obtain ⟨b, hb, e2⟩ := List.mem_map.mp (min_mem ((List.range (m + 1)).map fun b => (prl V n).getD b 0 + lr (cut V b (m + 1))) (by simp)).1
  exact ⟨b, List.mem_range.mp hb, by rw [prl_at V n m he]; exact e2⟩
theorem price_0 (V : List (Option Int)) (n : Nat) : (prl V n).getD 0 0 = 0 := prl_get V 0 0 (Nat.le_refl _) n (Nat.zero_le _)
noncomputable def eqB (V : List (Option Int)) (S : List Int) (e b : Nat) : Bool := decide (S.getD b 0 + lr (cut V b e) = S.getD e 0)
noncomputable def firstB (V : List (Option Int)) (S : List Int) (e : Nat) : Nat := (List.range e).findIdx (eqB V S e)
theorem first_spec (V : List (Option Int)) (e : Nat) (h : 1 ≤ e) (he : e ≤ V.length) : firstB V (prl V V.length) e < e ∧ eqB V (prl V V.length) e (firstB V (prl V V.length) e) = true ∧ ∀ b, b < firstB V (prl V V.length) e → eqB V (prl V V.length) e b = false := by
  obtain ⟨b, hb, e2⟩ := price_ex V V.length e h he
  have hlt : (List.range e).findIdx (eqB V (prl V V.length) e) < (List.range e).length := List.findIdx_lt_length.mpr ⟨b, List.mem_range.mpr hb, decide_eq_true e2⟩
  have hlt' := hlt
  rw [List.length_range] at hlt'
  refine ⟨hlt', ?_, fun b hb => ?_⟩
  · have := List.findIdx_getElem (xs := List.range e) (p := eqB V (prl V V.length) e) (w := hlt)
    rw [List.getElem_range] at this
    exact this
  · have := List.not_of_lt_findIdx (xs := List.range e) (p := eqB V (prl V V.length) e) hb
    rw [List.getElem_range] at this
    exact this
noncomputable def endsF (V : List (Option Int)) (S : List Int) : Nat → Nat → List Nat → List Nat
  | 0, _, acc => acc
  | k + 1, e, acc => if e = 0 then acc else endsF V S k (firstB V S e) (e :: acc)
noncomputable def PS (V : List (Option Int)) : List Int := prl V V.length
theorem PS_len (V : List (Option Int)) : (PS V).length = V.length + 1 := prl_len V _
/-! ### the program's cuts -/
theorem while_f {n : Nat} {p : List Dt → R Bool} {s : List Dt → R Fl} {ρ : List Dt} (h : p ρ = rok false) : dWhile (n + 1) p s ρ = rok (.nx ρ) := by rw [dWhile, h]; rfl
theorem while_t {n : Nat} {p : List Dt → R Bool} {s : List Dt → R Fl} {ρ ρ1 : List Dt} (h : p ρ = rok true) (e : s ρ = rok (.nx ρ1)) : dWhile (n + 1) p s ρ = dWhile n p s ρ1 := by rw [dWhile, h, rbind_ok, if_pos rfl, e, rbind_ok]
abbrev cTest : List Dt → R Bool := dT (d2 dGt (d2 dAdd (d2 dIx (dVar 2) (dVar 4)) (dCall den_least_room (aCons (dSl sliceL (dVar 0) (oSome (dVar 4)) (oSome (dVar 3))) aNil))) (d2 dIx (dVar 2) (dVar 3)))
theorem cuts_inner (V : List (Option Int)) (hV : ∀ o ∈ V, okV o) (hn : V.length ≤ 64) (e f : Nat) (hf : f < e) (he : e ≤ V.length) (hP : (PS V).getD f 0 + lr (cut V f e) = (PS V).getD e 0) (hlt : ∀ b, b < f → (PS V).getD e 0 < (PS V).getD b 0 + lr (cut V b e)) (acc : Dt) : ∀ j b : Nat, b ≤ f → f - b < j →
    dWhile j cTest (dSet 4 (d2 dAdd (dVar 4) (dC (.int 1)))) [LO V, acc, LI (PS V), .int (e : Int), .int (b : Int)] = rok (.nx [LO V, acc, LI (PS V), .int (e : Int), .int (f : Int)])
  | 0, b, _, h => by omega
  | j + 1, b, hb, h => by
    have t : cTest [LO V, acc, LI (PS V), .int (e : Int), .int (b : Int)] = rok (decide ((PS V).getD e 0 < (PS V).getD b 0 + lr (cut V b e))) :=
      t_to (Eq.trans (d2_to (Eq.trans (d2_to (Eq.trans (d2_to rfl rfl) (at_I' _ b (by rw [PS_len]; omega))) (Eq.trans (call_1 (slice_to rfl rfl rfl (by omega) he)) (least_ok _ _ _ (cut_part V hV hn b e (by omega) he)))) (ev_add _ _)) (Eq.trans (d2_to rfl rfl) (at_I' _ e (by rw [PS_len]; omega)))) (ev_gt _ _))
    by_cases c : b = f
    · subst c
      rw [decide_eq_false (by omega)] at t
      exact while_f t
    · rw [decide_eq_true (hlt b (by omega))] at t
      have s : dSet 4 (d2 dAdd (dVar 4) (dC (.int 1))) [LO V, acc, LI (PS V), .int (e : Int), .int (b : Int)] = rok (.nx [LO V, acc, LI (PS V), .int (e : Int), .int ((b + 1 : Nat) : Int)]) := set_to rfl
      rw [while_t t s]
      exact cuts_inner V hV hn e f hf he hP hlt acc j (b + 1) (by omega) (by omega)
theorem ins_0 (l : List Nat) (e : Nat) (h : l.length ≤ 1000) : kInsert [.int 0, .int (e : Int)] (l.map fun n : Nat => Dt.int (n : Int)) = rok ((e :: l).map fun n : Nat => Dt.int (n : Int)) := by
  have : (0 : Int) ≤ 0 ∧ (0 : Int) < 2 ^ 63 ∧ (l.map fun n : Nat => Dt.int (n : Int)).length < 16777216 := ⟨by decide, by decide, by rw [List.length_map]; omega⟩
  exact (if_pos this).trans rfl
abbrev cBody : List Dt → R Fl := dSeq (dInsert 1 (dC (.int 0)) (dVar 3)) (dSeq (dSet 4 (dC (.int 0))) (dSeq (dWhile 100 cTest (dSet 4 (d2 dAdd (dVar 4) (dC (.int 1))))) (dSet 3 (dVar 4))))
theorem cuts_outer (V : List (Option Int)) (hV : ∀ o ∈ V, okV o) (hn : V.length ≤ 64) : ∀ (j e : Nat) (acc : List Nat) (x : Dt), e ≤ V.length → e < j → acc.length + e ≤ 64 →
    ∃ x', dWhile j (dT (d2 dGt (dVar 3) (dC (.int 0)))) cBody [LO V, LN acc, LI (PS V), .int (e : Int), x] = rok (.nx [LO V, LN (endsF V (PS V) j e acc), LI (PS V), .int 0, x'])
  | 0, e, _, _, _, h, _ => by omega
  | j + 1, e, acc, x, he, h, ha => by
    have t : dT (d2 dGt (dVar 3) (dC (.int 0))) [LO V, LN acc, LI (PS V), .int (e : Int), x] = rok (decide ((0 : Int) < e)) := t_to (Eq.trans (d2_to rfl rfl) (ev_gt _ _))
    rw [endsF]
    by_cases c : e = 0
    · subst c
      rw [if_pos rfl]
      exact ⟨x, while_f t⟩
    · rw [if_neg c]
      rw [decide_eq_true (by omega)] at t
      obtain ⟨f1, f2, f3⟩ := first_spec V e (by omega) he
      have f2' : (PS V).getD (firstB V (PS V) e) 0 + lr (cut V (firstB V (PS V) e) e) = (PS V).getD e 0 := of_decide_eq_true f2
      have w := cuts_inner V hV hn e (firstB V (PS V) e) f1 he f2' (fun b hb => by
        have h1 := of_decide_eq_false (f3 b hb)
        have h2 := price_le V V.length b e (by have : b < firstB V (prl V V.length) e := hb; omega) he
        have h1' : ¬ (prl V V.length).getD b 0 + lr (cut V b e) = (prl V V.length).getD e 0 := h1
        show (prl V V.length).getD e 0 < (prl V V.length).getD b 0 + lr (cut V b e)
        omega) (LN (e :: acc)) 100 0 (Nat.zero_le _) (by have : firstB V (PS V) e < e := f1; omega)
      have i1 : dInsert 1 (dC (.int 0)) (dVar 3) [LO V, LN acc, LI (PS V), .int (e : Int), x] = rok (.nx [LO V, LN (e :: acc), LI (PS V), .int (e : Int), x]) := by
        unfold dInsert
        simp only [ev_aCons, ev_aNil, ev_C, rbind_ok, ev_vars, ev_var0]
        rw [ev_onLst 1 _ _ (acc.map fun n : Nat => Dt.int (n : Int)) rfl, ins_0 acc e (by omega), rbind_ok]
        rfl
      have s : cBody [LO V, LN acc, LI (PS V), .int (e : Int), x] = rok (.nx [LO V, LN (e :: acc), LI (PS V), .int (firstB V (PS V) e : Nat), .int (firstB V (PS V) e : Nat)]) :=
        Eq.trans (seq_nx i1) (Eq.trans (seq_nx (set_to rfl)) (Eq.trans (seq_nx w) (set_to rfl)))
      rw [while_t t s]
      have f1' : firstB V (PS V) e < e := f1
      exact cuts_outer V hV hn j _ (e :: acc) _ (by omega) (by omega) (by rw [List.length_cons]; omega)
noncomputable def ends (V : List (Option Int)) : List Nat := endsF V (PS V) 100 V.length []
theorem cuts_ok (V : List (Option Int)) (hV : ∀ o ∈ V, okV o) (hn : V.length ≤ 64) : den_cuts [LO V] = rok (LN (ends V)) := by
  obtain ⟨x', e⟩ := cuts_outer V hV hn 100 V.length [] .non (Nat.le_refl _) (by omega) (by rw [List.length_nil]; omega)
  exact fn_rt (Eq.trans (seq_nx (set_to rfl)) (Eq.trans (seq_nx (set_to (Eq.trans (call_1 rfl) (prices_ok V hV hn)))) (Eq.trans (seq_nx (set_to (len_to rfl))) (Eq.trans (seq_nx e) (ret_to rfl rfl)))))
end VL

set_option Elab.async false
set_option linter.all false
set_option maxRecDepth 100000
set_option maxHeartbeats 1000000
namespace VL
open PySem PySem.Spec PyProof.Rows L2
def ok (V : List (Option Int)) : Nat → List Nat → Prop
  | _, [] => True
  | b, e :: E => b < e ∧ e ≤ V.length ∧ ok V e E
def segs (V : List (Option Int)) : Nat → List Nat → List (List (Option Int))
  | _, [] => []
  | b, e :: E => cut V b e :: segs V e E
def LNI (E : List Nat) : List Int := E.map fun n : Nat => (n : Int)
theorem LN_LI (E : List Nat) : LN E = LI (LNI E) := by unfold LNI; rw [LI, List.map_map]; rfl
theorem ends_fold (V : List (Option Int)) : ∀ (j e : Nat) (acc : List Nat), e ≤ V.length → e < j → (LNI (endsF V (PS V) j e acc)).foldlM (stepE V (PS V)) 0 = (LNI acc).foldlM (stepE V (PS V)) e
  | 0, e, _, _, h => by omega
  | j + 1, e, acc, he, h => by
    rw [endsF]
    by_cases c : e = 0
    · subst c; rw [if_pos rfl]
    · rw [if_neg c]
      obtain ⟨f1, f2, f3⟩ := first_spec V e (by omega) he
      have f1' : firstB V (PS V) e < e := f1
      have f2' : (PS V).getD (firstB V (PS V) e) 0 + lr (cut V (firstB V (PS V) e) e) = (PS V).getD e 0 := of_decide_eq_true f2
      rw [ends_fold V j _ (e :: acc) (by omega) (by omega)]
      have s : stepE V (PS V) (firstB V (PS V) e) (e : Int) = some e := by
        unfold stepE
        rw [if_pos ⟨by omega, by omega⟩, Int.toNat_natCast, if_pos f2'.symm]
      show (((e : Int) :: LNI acc).foldlM (stepE V (PS V)) (firstB V (PS V) e)) = _
      rw [List.foldlM_cons, s]
      rfl
theorem ends_last (V : List (Option Int)) : ∀ (j e : Nat) (acc : List Nat), e ≤ V.length → e < j → (endsF V (PS V) j e acc).getLast?.getD 0 = if acc = [] then e else acc.getLast?.getD 0
  | 0, e, _, _, h => by omega
  | j + 1, e, acc, he, h => by
    rw [endsF]
    by_cases c : e = 0
    · subst c
      rw [if_pos rfl]
      by_cases c2 : acc = []
      · subst c2; rfl
      · rw [if_neg c2]
    · rw [if_neg c]
      have f1' : firstB V (PS V) e < e := (first_spec V e (by omega) he).1
      rw [ends_last V j _ (e :: acc) (by omega) (by omega), if_neg (by simp)]
      by_cases c2 : acc = []
      · subst c2; rfl
      · rw [if_neg c2]
        obtain ⟨l, a, rfl⟩ := len_last acc c2
        rw [← List.cons_append, List.getLast?_append, List.getLast?_append]
        rfl
theorem fold_ok (V : List (Option Int)) (S : List Int) : ∀ (E : List Nat) (b z : Nat), (LNI E).foldlM (stepE V S) b = some z → ok V b E ∧ ((segs V b E).map lr).sum = S.getD z 0 - S.getD b 0
  | [], b, z, h => by
    injection h with h
    subst h
    exact ⟨trivial, by simp [segs]⟩
  | e :: E, b, z, h => by
    have h : (stepE V S b (e : Int) >>= fun z => (LNI E).foldlM (stepE V S) z) = some z := h
    unfold stepE at h
    by_cases c : (b : Int) < (e : Int) ∧ (e : Int) ≤ V.length
    · rw [if_pos c, Int.toNat_natCast] at h
      by_cases k : S.getD e 0 = S.getD b 0 + lr (cut V b e)
      · rw [if_pos k] at h
        obtain ⟨h1, h2⟩ := fold_ok V S E e z h
        refine ⟨⟨by omega, by omega, h1⟩, ?_⟩
        rw [segs, List.map_cons, List.sum_cons, h2]
        omega
      · rw [if_neg k] at h; cases h
    · rw [if_neg c] at h; cases h
theorem ends_ok (V : List (Option Int)) (hn : V.length ≤ 64) : ok V 0 (ends V) ∧ ((segs V 0 (ends V)).map lr).sum = (PS V).getD V.length 0 ∧ (LNI (ends V)).foldlM (stepE V (PS V)) 0 = some V.length ∧ lastE (LNI (ends V)) = V.length := by
  have h := ends_fold V 100 V.length [] (Nat.le_refl _) (by omega)
  have h' : (LNI (ends V)).foldlM (stepE V (PS V)) 0 = some V.length := h
  obtain ⟨h1, h2⟩ := fold_ok V (PS V) (ends V) 0 V.length h'
  refine ⟨h1, by rw [h2, show (PS V).getD 0 0 = 0 from price_0 V _, Int.sub_zero], h', ?_⟩
  have l := ends_last V 100 V.length [] (Nat.le_refl _) (by omega)
  rw [if_pos rfl] at l
  unfold lastE LNI
  rw [List.getLast?_map]
  show ((ends V).getLast?.map fun n : Nat => (n : Int)).getD 0 = _
  have l : (ends V).getLast?.getD 0 = V.length := l
  cases q : (ends V).getLast? with
  | none => rw [q] at l; have : 0 = V.length := l; rw [← this]; rfl
  | some a => rw [q] at l; have : a = V.length := l; rw [← this]; rfl
theorem shows_true (V : List (Option Int)) (hn : V.length ≤ 64) : showsB V (LNI (ends V)) (PS V) = true := by
  obtain ⟨_, _, h3, h4⟩ := ends_ok V hn
  unfold showsB
  rw [decide_eq_true (PS_len V), decide_eq_true (show (PS V).getD 0 0 = 0 from price_0 V _), decide_eq_true h4, h3]
  have : least V (PS V) = true := by
    unfold least
    rw [List.all_eq_true]
    intro i hi
    rw [List.all_eq_true]
    intro b hb
    have hi := List.mem_range.mp hi
    have hb := List.mem_range.mp hb
    exact decide_eq_true (price_le V V.length b (i + 1) hb (by omega))
  rw [this]
  rfl
theorem okc_len (V : List (Option Int)) : ∀ (E : List Nat) (b : Nat), ok V b E → b ≤ V.length → b + E.length ≤ V.length
  | [], b, _, h => by simpa using h
  | e :: E, b, ⟨h1, h2, h3⟩, _ => by
    have := okc_len V E e h3 h2
    rw [List.length_cons]
    omega
theorem seg_part (V : List (Option Int)) (hV : ∀ o ∈ V, okV o) (hn : V.length ≤ 64) : ∀ (E : List Nat) (b : Nat), ok V b E → ∀ p ∈ segs V b E, Okl p ∧ p.length ≤ 64 ∧ Part p (lr p) (kd p)
  | [], b, _, p, h => by simp [segs] at h
  | e :: E, b, ⟨h1, h2, h3⟩, p, h => by
    rw [segs] at h
    rcases List.mem_cons.mp h with rfl | h
    · obtain ⟨h4, h5⟩ := cut_okl V hV hn b e h1 h2
      exact ⟨h4, by omega, cut_part V hV hn b e h1 h2⟩
    · exact seg_part V hV hn E e h3 p h
theorem segs_len (V : List (Option Int)) : ∀ (E : List Nat) (b : Nat), (segs V b E).length = E.length
  | [], _ => rfl
  | e :: E, b => by rw [segs, List.length_cons, List.length_cons, segs_len V E e]
theorem seg_at (V : List (Option Int)) : ∀ (E : List Nat) (b k : Nat), ok V b E → k < E.length → (segs V b E)[k]? = some (cut V ((b :: E).getD k 0) (E.getD k 0)) ∧ (b :: E).getD k 0 < E.getD k 0 ∧ E.getD k 0 ≤ V.length
  | [], b, k, _, h => by simp at h
  | e :: E, b, 0, ⟨h1, h2, h3⟩, h => ⟨rfl, h1, h2⟩
  | e :: E, b, k + 1, ⟨h1, h2, h3⟩, h => seg_at V E e k h3 (by simpa using h)
end VL

set_option Elab.async false
set_option linter.all false
set_option maxRecDepth 100000
set_option maxHeartbeats 1000000
namespace VL
open PySem PySem.Spec PyProof.Rows L2
theorem bools_map : ∀ l : List Bool, toBools (l.map Dt.bl) = some l
  | [] => rfl
  | i :: l => by simp [toBools, bools_map l]
theorem bAll_to (l : List Bool) : bAll (.lst (l.map Dt.bl)) = rok (.bl (l.all id)) := by
  unfold bAll onBools
  simp only [bools_map]
theorem bSum_to (l : List Int) : bSum (.lst (l.map Dt.int)) = rok (.int l.sum) := by
  unfold bSum onInts
  simp only [toInts_map]
theorem andV_t {f1 f2 : List Dt → R Dt} {ρ : List Dt} (h : f1 ρ = rok (.bl true)) : dAndV f1 f2 ρ = f2 ρ := by unfold dAndV; rw [h]; rfl
theorem andV_f {f1 f2 : List Dt → R Dt} {ρ : List Dt} (h : f1 ρ = rok (.bl false)) : dAndV f1 f2 ρ = rok (.bl false) := by unfold dAndV; rw [h]; rfl
theorem ev_neL (L M : List (Option Int)) : dNe (.lst (L.map OI)) (.lst (M.map OI)) = rok (.bl (!decide (L = M))) := by
  unfold dNe
  rw [okN_LOI, okN_LOI]
  simp only [toPy, PyData.eqv, eqvAll_OI]
  rfl
theorem neI_same (S : List Int) : dNe (LI S) (LI S) = rok (.bl false) := by
  have e : LI S = LO (S.map some) := by show Dt.lst (S.map Dt.int) = _; rw [mapI]
  rw [e, ev_neL, decide_eq_true rfl]
  rfl
theorem at_last (S : List Int) (h : S ≠ []) : dIx (LI S) (.int (-1)) = rok (.int (S.getD (S.length - 1) 0)) := by
  obtain ⟨l, a, rfl⟩ := len_last S h
  have e : LI (l ++ [a]) = .lst (l.map Dt.int ++ [.int a]) := by show Dt.lst ((l ++ [a]).map Dt.int) = _; rw [List.map_append]; rfl
  rw [e, ev_ixL, atI_last]
  have : (l ++ [a]).getD ((l ++ [a]).length - 1) 0 = a := by
    rw [List.length_append, List.length_cons, List.length_nil, List.getD_eq_getElem?_getD, List.getElem?_append_right (by omega)]
    have : l.length + (0 + 1) - 1 - l.length = 0 := by omega
    rw [this]
    rfl
  rw [this]
  rfl
theorem last_PS (V : List (Option Int)) : dIx (LI (PS V)) (.int (-1)) = rok (.int ((PS V).getD V.length 0)) := by
  have h := at_last (PS V) (by intro e; have := PS_len V; rw [e] at this; simp at this)
  rw [PS_len] at h
  exact h
/-! ### drawn ends -/
theorem ok_sorted (V : List (Option Int)) : ∀ (E : List Nat) (b : Nat), (∀ e ∈ E, b < e ∧ e ≤ V.length) → E.Pairwise (· < ·) → ok V b E
  | [], _, _, _ => trivial
  | e :: E, b, h, p => ⟨(h e List.mem_cons_self).1, (h e List.mem_cons_self).2, ok_sorted V E e (fun x hx => ⟨(List.pairwise_cons.mp p).1 x hx, (h x (List.mem_cons_of_mem _ hx)).2⟩) (List.pairwise_cons.mp p).2⟩
def drawn (V : List (Option Int)) (q : Nat → Bool) : List Nat := ((List.range (V.length - 1)).filter fun i => q (i + 1)).map (· + 1) ++ if V = [] then [] else [V.length]
theorem drawn_ok (V : List (Option Int)) (q : Nat → Bool) : ok V 0 (drawn V q) := by
  refine ok_sorted V _ 0 ?_ ?_
  · intro e he
    unfold drawn at he
    rcases List.mem_append.mp he with he | he
    · obtain ⟨i, hi, rfl⟩ := List.mem_map.mp he
      have := List.mem_range.mp (List.mem_filter.mp hi).1
      omega
    · by_cases c : V = []
      · rw [if_pos c] at he; simp at he
      · rw [if_neg c] at he
        have := List.length_pos_iff.mpr c
        have : e = V.length := by simpa using he
        omega
  · unfold drawn
    rw [List.pairwise_append]
    refine ⟨?_, ?_, ?_⟩
    · exact List.Pairwise.map _ (fun a b (h : a < b) => by show a + 1 < b + 1; omega) (List.Pairwise.filter _ List.pairwise_lt_range)
    · split <;> simp
    · intro a ha b hb
      obtain ⟨i, hi, rfl⟩ := List.mem_map.mp ha
      have := List.mem_range.mp (List.mem_filter.mp hi).1
      by_cases c : V = []
      · rw [if_pos c] at hb; simp at hb
      · rw [if_neg c] at hb
        have : b = V.length := by simpa using hb
        omega
theorem drawn_len (V : List (Option Int)) (q : Nat → Bool) : (drawn V q).length ≤ V.length := by
  have := okc_len V _ 0 (drawn_ok V q) (Nat.zero_le _)
  omega
theorem drawn_last (V : List (Option Int)) (q : Nat → Bool) : (drawn V q).getLast?.getD 0 = V.length := by
  unfold drawn
  by_cases c : V = []
  · subst c; rfl
  · rw [if_neg c, List.getLast?_append]; rfl
/-- the drawn ends, as the laws draw them -/
theorem drawn_comp (V : List (Option Int)) (q : Nat → Bool) (hn : V.length ≤ 1000) {it : List Dt → R (List Dt)} {k : Nat} {p : List Dt → R Bool} {ρ : List Dt} (hi : it ρ = rok (rng 1 ((V.length : Int) - 1).toNat))
    (hp : ∀ i : Nat, i < V.length - 1 → p (ρ.set k (.int ((i + 1 : Nat) : Int))) = rok (q (i + 1))) (hk : ∀ d, dVar k (ρ.set k d) = rok d) :
    dComp it (setN k) p (dVar k) ρ = rok (LN (((List.range (V.length - 1)).filter fun i => q (i + 1)).map (· + 1))) := by
  have c := comp_map (it := it) (set := setN k) (p := p) (f := dVar k) (ρ := ρ) (fun i : Nat => Dt.int (1 + (i : Int))) (fun i => q (i + 1)) (fun i : Nat => Dt.int ((i + 1 : Nat) : Int)) (List.range (V.length - 1)) (by
    rw [hi, rng_eq]
    have : ((V.length : Int) - 1).toNat = V.length - 1 := by omega
    rw [this]) (by rw [List.length_range]; omega) (by
    intro i hi
    have e1 : (1 : Int) + (i : Int) = ((i + 1 : Nat) : Int) := by omega
    exact ⟨ρ.set k (.int ((i + 1 : Nat) : Int)), by rw [e1]; rfl, hp i (List.mem_range.mp hi), fun _ => hk _⟩)
  rw [c]
  show rok (Dt.lst _) = rok (Dt.lst _)
  rw [List.map_map]
  rfl
theorem drawn_cat (V : List (Option Int)) (q : Nat → Bool) (hn : V.length ≤ 1000) {k v : Nat} {ρ : List Dt} (h1 : dVar k ρ = rok (LN (((List.range (V.length - 1)).filter fun i => q (i + 1)).map (· + 1)))) (h2 : dVar v ρ = rok (LO V)) :
    d2 dCat (dVar k) (d2 dRep (dLst (aCons (dCall (one bLen) (aCons (dVar v) aNil)) aNil)) (dCall (one bInt) (aCons (d2 dNe (dVar v) (dLst aNil)) aNil))) ρ = rok (LN (drawn V q)) := by
  have t : dCall (one bInt) (aCons (d2 dNe (dVar v) (dLst aNil)) aNil) ρ = rok (.int ((if V = [] then 0 else 1 : Nat) : Int)) := by
    refine Eq.trans (call_1 (Eq.trans (d2_to h2 rfl) (ev_neL V []))) ?_
    by_cases c : V = []
    · rw [if_pos c, decide_eq_true c]; rfl
    · rw [if_neg c, decide_eq_false c]; rfl
  have r : d2 dRep (dLst (aCons (dCall (one bLen) (aCons (dVar v) aNil)) aNil)) (dCall (one bInt) (aCons (d2 dNe (dVar v) (dLst aNil)) aNil)) ρ = rok (LN (if V = [] then [] else [V.length])) := by
    refine Eq.trans (d2_to (lst1_to (len_to h2)) t) ?_
    by_cases c : V = []
    · rw [if_pos c, if_pos c]; exact rep_to _ 0 ⟨by simp, by decide⟩
    · rw [if_neg c, if_neg c]; exact rep_to _ 1 ⟨by simp, by decide⟩
  refine Eq.trans (d2_to h1 r) (Eq.trans (cat_to _ _ ?_) ?_)
  · rw [List.length_map, List.length_map, List.length_map]
    have := List.length_filter_le (fun i => q (i + 1)) (List.range (V.length - 1))
    rw [List.length_range] at this
    split <;> simp <;> omega
  · rw [← List.map_append]; rfl
theorem segs_range (V : List (Option Int)) (E : List Nat) (b : Nat) (ho : ok V b E) : segs V b E = (List.range E.length).map fun k => cut V ((b :: E).getD k 0) (E.getD k 0) := by
  refine List.ext_getElem? fun k => ?_
  by_cases h : k < E.length
  · rw [(seg_at V E b k ho h).1, List.getElem?_map, List.getElem?_range h]; rfl
  · rw [List.getElem?_eq_none (by rw [segs_len]; omega), List.getElem?_eq_none (by rw [List.length_map, List.length_range]; omega)]
theorem beg_LN (E : List Nat) (h : E.length ≤ 1000) {ρ : List Dt} {k : Nat} (h1 : dVar k ρ = rok (LN E)) : d2 dCat (dLst (aCons (dC (.int 0)) aNil)) (dVar k) ρ = rok (LN (0 :: E)) := by
  refine Eq.trans (d2_to (lst1_to rfl) h1) (Eq.trans (cat_to _ _ ?_) rfl)
  rw [List.length_map, List.length_cons, List.length_nil]; omega
/-- the sum of the parts' rooms, as the laws reckon it -/
theorem parts_sum (V : List (Option Int)) (hV : ∀ o ∈ V, okV o) (hn : V.length ≤ 64) (E : List Nat) (ho : ok V 0 E) {v e g k : Nat} {ρ : List Dt} (hv : ∀ d, dVar v (ρ.set k d) = rok (LO V)) (he : dVar e ρ = rok (LN E)) (he' : ∀ d, dVar e (ρ.set k d) = rok (LN E)) (hg : ∀ d, dVar g (ρ.set k d) = rok (LN (0 :: E))) (hk : ∀ d, dVar k (ρ.set k d) = rok d) :
    dCall (one bSum) (aCons (dComp (iRng (aCons (dCall (one bLen) (aCons (dVar e) aNil)) aNil) rng1) (setN k) pYes (d2 dIx (dCall den_law_best (aCons (dSl sliceL (dVar v) (oSome (d2 dIx (dVar g) (dVar k))) (oSome (d2 dIx (dVar e) (dVar k)))) aNil)) (dC (.int 1)))) aNil) ρ = rok (.int ((segs V 0 E).map lr).sum) := by
  have hl := okc_len V E 0 ho (Nat.zero_le _)
  have c := comp_map (it := iRng (aCons (dCall (one bLen) (aCons (dVar e) aNil)) aNil) rng1) (set := setN k) (p := pYes) (f := d2 dIx (dCall den_law_best (aCons (dSl sliceL (dVar v) (oSome (d2 dIx (dVar g) (dVar k))) (oSome (d2 dIx (dVar e) (dVar k)))) aNil)) (dC (.int 1))) (ρ := ρ) (fun i : Nat => Dt.int (0 + (i : Int))) (fun _ => true) (fun i => Dt.int (lr (cut V ((0 :: E).getD i 0) (E.getD i 0)))) (List.range E.length) (by
    rw [iRng1_to (a := (E.length : Int)) (Eq.trans (call_1 he) (by rw [ev_one, ev_lenL, List.length_map])) (by omega), rng_eq, Int.toNat_natCast]) (by rw [List.length_range]; omega) (by
    intro i hi
    have hi := List.mem_range.mp hi
    have e0 : (0 : Int) + (i : Int) = (i : Int) := by omega
    refine ⟨ρ.set k (.int (i : Int)), by rw [e0]; rfl, rfl, fun _ => ?_⟩
    obtain ⟨_, s2, s3⟩ := seg_at V E 0 i ho hi
    have p := cut_part V hV hn _ _ s2 s3
    exact Eq.trans (d2_to (Eq.trans (call_1 (slice_to (hv _) (Eq.trans (d2_to (hg _) (hk _)) (at_N _ i (by rw [List.length_cons]; omega))) (Eq.trans (d2_to (he' _) (hk _)) (at_N _ i hi)) (by omega) s3)) p.lb) rfl) rfl)
  rw [filterT] at c
  have e : (List.range E.length).map (fun i => Dt.int (lr (cut V ((0 :: E).getD i 0) (E.getD i 0)))) = ((segs V 0 E).map lr).map Dt.int := by
    rw [segs_range V E 0 ho, List.map_map, List.map_map]; rfl
  rw [e] at c
  exact Eq.trans (call_1 c) (bSum_to _)
/-- no cutting needs fewer bits -/
theorem cut_le (V : List (Option Int)) : ∀ (E : List Nat) (b : Nat), ok V b E → (PS V).getD (E.getLast?.getD b) 0 ≤ (PS V).getD b 0 + ((segs V b E).map lr).sum
  | [], b, _ => by simp [segs]
  | e :: E, b, ⟨h1, h2, h3⟩ => by
    have ih := cut_le V E e h3
    have p : (PS V).getD e 0 ≤ (PS V).getD b 0 + lr (cut V b e) := price_le V V.length b e h1 h2
    have g : (e :: E).getLast?.getD b = E.getLast?.getD e := by
      cases E with
      | nil => rfl
      | cons x E => rw [List.getLast?_cons_cons, List.getLast?_cons]; rfl
    rw [g, segs, List.map_cons, List.sum_cons]
    omega
theorem drawn_le (V : List (Option Int)) (q : Nat → Bool) : (PS V).getD V.length 0 ≤ ((segs V 0 (drawn V q)).map lr).sum := by
  have h := cut_le V (drawn V q) 0 (drawn_ok V q)
  rw [drawn_last] at h
  have z : (PS V).getD 0 0 = 0 := price_0 V _
  omega

end VL

set_option Elab.async false
set_option linter.all false
set_option maxRecDepth 100000
set_option maxHeartbeats 1000000
namespace VL
open PySem PySem.Spec PyProof.Rows L2
/-! ### bits -/
def bit (y : Int) : Nat := if y % 2 = 0 then 48 else 49
def bl : Nat → Int → List Nat
  | 0, _ => []
  | n + 1, y => bl n (y / 2) ++ [bit y]
theorem bl_len : ∀ n y, (bl n y).length = n
  | 0, _ => rfl
  | n + 1, y => by rw [bl, List.length_append, bl_len n]; rfl
def is01 (l : List Nat) : Prop := ∀ c ∈ l, c = 48 ∨ c = 49
theorem is01_app {a b : List Nat} (h1 : is01 a) (h2 : is01 b) : is01 (a ++ b) := fun c hc => (List.mem_append.mp hc).elim (h1 c) (h2 c)
theorem is01_flat {ys : List (List Nat)} (h : ∀ y ∈ ys, is01 y) : is01 ys.flatten := fun c hc => by
  obtain ⟨y, hy, hc⟩ := List.mem_flatten.mp hc
  exact h y hy c hc
theorem bl_01 : ∀ n y, is01 (bl n y)
  | 0, _ => fun c h => by cases h
  | n + 1, y => is01_app (bl_01 n _) fun c hc => by
    rw [List.mem_singleton] at hc
    subst hc
    unfold bit
    split
    · exact .inl rfl
    · exact .inr rfl
abbrev BS (l : List Nat) : Dt := .str (SX.S l)
theorem strOk_01 {l : List Nat} (h : is01 l) : PyData.strOk (SX.S l) = true := by
  unfold PyData.strOk
  rw [← Array.all_toList, List.all_eq_true]
  intro c hc
  rcases h c hc with rfl | rfl <;> decide
theorem bstr0 : bStr (.int 0) = rok (.str (SX.S [48])) := by
  have e : bStr (.int 0) = if ((0 : Int).natAbs.log2 < 1920) then rok (.str (toString (0 : Int))) else none := rfl
  rw [e]
  have : (toString (0 : Int) : Str) = SX.S [48] := by decide +kernel
  rw [if_pos (by decide), this]
theorem bstr1 : bStr (.int 1) = rok (.str (SX.S [49])) := by
  have e : bStr (.int 1) = if ((1 : Int).natAbs.log2 < 1920) then rok (.str (toString (1 : Int))) else none := rfl
  rw [e]
  have : (toString (1 : Int) : Str) = SX.S [49] := by decide +kernel
  rw [if_pos (by decide), this]
theorem bstr_bit (y : Int) : bStr (.int (y % 2)) = rok (.str (SX.S [bit y])) := by
  have h : y % 2 = 0 ∨ y % 2 = 1 := by omega
  unfold bit
  rcases h with h | h
  · rw [h, if_pos rfl]; exact bstr0
  · rw [h, if_neg (by decide)]; exact bstr1
theorem cat_S (a b : List Nat) (h : a.length + b.length ≤ 16777216) : dAdd (BS a) (BS b) = rok (BS (a ++ b)) := by
  show (if (SX.S a).length + (SX.S b).length ≤ 16777216 then rok (Dt.str (SX.S a ++ SX.S b)) else none) = _
  rw [SX.S_len, SX.S_len, if_pos h, SX.S_cat]
theorem str_nil : (("" : Str)) = SX.S [] := by decide +kernel
theorem bits_for (mn : Dt) : ∀ (ds : List Dt) (y : Int) (f : List Nat) (k : Dt), f.length + ds.length ≤ 100000 → ∃ y' k', dForL (setN 3) (dSeq (dSet 2 (d2 dAdd (dCall (one bStr) (aCons (d2 dMod (dVar 0) (dC (.int 2))) aNil)) (dVar 2))) (dSet 0 (d2 dFdiv (dVar 0) (dC (.int 2))))) ds [.int y, mn, BS f, k] = rok (.nx [.int y', mn, BS (bl ds.length y ++ f), k'])
  | [], y, f, k, _ => ⟨y, k, rfl⟩
  | d :: ds, y, f, k, h => by
    rw [List.length_cons] at h
    obtain ⟨y', k', e⟩ := bits_for mn ds (y / 2) (bit y :: f) d (by rw [List.length_cons]; omega)
    have e1 : (dSeq (dSet 2 (d2 dAdd (dCall (one bStr) (aCons (d2 dMod (dVar 0) (dC (.int 2))) aNil)) (dVar 2))) (dSet 0 (d2 dFdiv (dVar 0) (dC (.int 2))))) [.int y, mn, BS f, d] = rok (.nx [.int (y / 2), mn, BS (bit y :: f), d]) :=
      Eq.trans (seq_nx (set_to (Eq.trans (d2_to (Eq.trans (call_1 (Eq.trans (d2_to rfl rfl) (ev_mod _ 2 (by decide)))) (bstr_bit y)) rfl) (cat_S [bit y] f (by rw [List.length_singleton]; omega))))) (set_to (Eq.trans (d2_to rfl rfl) (ev_fdiv _ 2 (by decide))))
    refine ⟨y', k', ?_⟩
    rw [dForL, ev_setN]
    simp only [Option.map_some, rbind_ok', List.set]
    rw [e1, rbind_ok]
    show dForL _ _ ds [.int (y / 2), mn, BS (bit y :: f), d] = _
    rw [e, List.length_cons, bl, List.append_assoc]
    first | done | rfl
theorem bits_ok (y : Int) (n : Nat) (h : n ≤ 1000) : den_bits_of [.int y, .int (n : Int)] = rok (BS (bl n y)) := by
  have hr : iRng (aCons (dVar 1) aNil) rng1 [.int y, .int (n : Int), BS [], .non] = rok (rng 0 n) := by
    rw [iRng1_to (a := (n : Int)) rfl (by omega), Int.toNat_natCast]
  have hlen : (rng 0 n).length = n := by rw [rng_eq, List.length_map, List.length_range]
  obtain ⟨y', k', e⟩ := bits_for (.int (n : Int)) (rng 0 n) y [] .non (by rw [hlen, List.length_nil]; omega)
  rw [hlen, List.append_nil] at e
  have e0 : dSet 2 (dC (.str "")) [.int y, .int (n : Int), .non, .non] = rok (.nx [.int y, .int (n : Int), BS [], .non]) := by
    rw [str_nil]; rfl
  exact fn_rt (Eq.trans (seq_nx e0) (Eq.trans (seq_nx (Eq.trans (for_to hr) e)) (ret_to rfl rfl)))
theorem ix01 (y : Int) : dIx (.str "01") (.int (y % 2)) = rok (BS [bit y]) := by
  have h : y % 2 = 0 ∨ y % 2 = 1 := by omega
  have e : ("01" : Str) = SX.S [48, 49] := by decide +kernel
  unfold bit
  rcases h with h | h
  · rw [h, if_pos rfl, e]; rfl
  · rw [h, if_neg (by decide), e]; rfl
theorem lawbits_wh (m : Nat) (hm : m ≤ 99) : ∀ (r : Nat) (y : Int) (f : List Nat) (j : Nat), f.length + r = m → r < j → ∃ y', dWhile j (dT (d2 dLt (dCall (one bLen) (aCons (dVar 2) aNil)) (dVar 1))) (dSeq (dSet 2 (d2 dAdd (d2 dIx (dC (.str "01")) (d2 dMod (dVar 0) (dC (.int 2)))) (dVar 2))) (dSet 0 (d2 dFdiv (dVar 0) (dC (.int 2))))) [.int y, .int (m : Int), BS f] = rok (.nx [.int y', .int (m : Int), BS (bl r y ++ f)]) := by
  have hlen : ∀ (y : Int) (f : List Nat), f.length ≤ 1000 → dT (d2 dLt (dCall (one bLen) (aCons (dVar 2) aNil)) (dVar 1)) [.int y, .int (m : Int), BS f] = rok (decide (f.length < m)) := fun y f hf => by
    have e : dCall (one bLen) (aCons (dVar 2) aNil) [.int y, .int (m : Int), BS f] = rok (.int (f.length : Int)) := by
      refine Eq.trans (call_1 rfl) ?_
      show (if (SX.S f).length ≤ 16777216 then rok (Dt.int ((SX.S f).length : Int)) else none) = _
      rw [SX.S_len, if_pos (by omega)]
    refine t_to (Eq.trans (d2_to e rfl) ?_)
    rw [ev_lt]
    congr 2
    exact decide_eq_decide.mpr (by omega)
  intro r
  induction r with
  | zero =>
    intro y f j h hj
    obtain ⟨j, rfl⟩ : ∃ j', j = j' + 1 := ⟨j - 1, by omega⟩
    refine ⟨y, ?_⟩
    rw [dWhile, hlen y f (by omega), decide_eq_false (by omega)]
    rfl
  | succ r ih =>
    intro y f j h hj
    obtain ⟨j, rfl⟩ : ∃ j', j = j' + 1 := ⟨j - 1, by omega⟩
    obtain ⟨y', e⟩ := ih (y / 2) (bit y :: f) j (by rw [List.length_cons]; omega) (by omega)
    have e1 : (dSeq (dSet 2 (d2 dAdd (d2 dIx (dC (.str "01")) (d2 dMod (dVar 0) (dC (.int 2)))) (dVar 2))) (dSet 0 (d2 dFdiv (dVar 0) (dC (.int 2))))) [.int y, .int (m : Int), BS f] = rok (.nx [.int (y / 2), .int (m : Int), BS (bit y :: f)]) :=
      Eq.trans (seq_nx (set_to (Eq.trans (d2_to (Eq.trans (d2_to rfl (Eq.trans (d2_to rfl rfl) (ev_mod _ 2 (by decide)))) (ix01 y)) rfl) (cat_S [bit y] f (by rw [List.length_singleton]; omega))))) (set_to (Eq.trans (d2_to rfl rfl) (ev_fdiv _ 2 (by decide))))
    refine ⟨y', ?_⟩
    rw [dWhile, hlen y f (by omega), decide_eq_true (by omega), rbind_ok, if_pos rfl, e1, rbind_ok]
    show dWhile j _ _ _ = _
    rw [e, bl, List.append_assoc]
    first | done | rfl
theorem law_bits_ok (y : Int) (n : Nat) (h : n ≤ 99) : den_law_bits [.int y, .int (n : Int)] = rok (BS (bl n y)) := by
  obtain ⟨y', e⟩ := lawbits_wh n h n y [] 100 (by rw [List.length_nil]; omega) (by omega)
  rw [List.append_nil] at e
  have e0 : dSet 2 (dC (.str "")) [.int y, .int (n : Int), .non] = rok (.nx [.int y, .int (n : Int), BS []]) := by
    rw [str_nil]; rfl
  exact fn_rt (Eq.trans (seq_nx e0) (Eq.trans (seq_nx e) (ret_to rfl rfl)))
def cd : Option Int → Int
  | none => 0
  | some v => v + 4000000 + 1
theorem code_ok (o : Option Int) : den_code [OI o] = rok (.int (cd o)) := by
  cases o with
  | none => exact fn_rt (ret_to (Eq.trans (if_t rfl) rfl) rfl)
  | some v => exact fn_rt (ret_to (Eq.trans (if_f rfl) rfl) rfl)
theorem plain_ok (o : Option Int) : den_law_plain [OI o] = rok (BS (bl 24 (cd o))) := by
  have e : dIf (dT (d2 dIsN (dVar 0) (dC .non))) (dC (.int 0)) (d2 dAdd (dVar 0) (dC (.int 4000001))) [OI o] = rok (.int (cd o)) := by
    cases o with
    | none => exact Eq.trans (if_t rfl) rfl
    | some v =>
      refine Eq.trans (if_f rfl) (Eq.trans (d2_to rfl rfl) (Eq.trans (ev_add _ _) ?_))
      show rok (Dt.int (v + 4000001)) = rok (.int (v + 4000000 + 1))
      rw [Int.add_assoc]
      rfl
  exact fn_rt (ret_to (Eq.trans (call_2 e rfl) (law_bits_ok (cd o) 24 (by decide))) rfl)
theorem plainP_ok {f : List Dt → R Dt} {ρ : List Dt} {o : Option Int} (h : f ρ = rok (OI o)) : dCall den_bits_of (aCons (dCall den_code (aCons f aNil)) (aCons (dC (.int 24)) aNil)) ρ = rok (BS (bl 24 (cd o))) :=
  Eq.trans (call_2 (Eq.trans (call_1 h) (code_ok o)) rfl) (bits_ok (cd o) 24 (by decide))
/-! ### texts put together -/
theorem toStrs_S : ∀ ys : List (List Nat), toStrs (ys.map BS) = some (ys.map SX.S)
  | [] => rfl
  | y :: ys => by
    have := toStrs_S ys
    simp [toStrs, this]
theorem joinL_nil : ∀ ys : List (List Nat), TL.joinL [] ys = ys.flatten
  | [] => rfl
  | [y] => by simp [TL.joinL]
  | y :: z :: r => by
    have := joinL_nil (z :: r)
    rw [TL.joinL, this]
    rfl
theorem sum_le (ys : List (List Nat)) (b : Nat) (h : ∀ y ∈ ys, y.length ≤ b) : (ys.map (·.length)).sum ≤ ys.length * b := by
  induction ys with
  | nil => simp
  | cons y ys ih =>
    have h1 := h y List.mem_cons_self
    have h2 := ih fun z hz => h z (List.mem_cons_of_mem _ hz)
    rw [List.map_cons, List.sum_cons, List.length_cons, Nat.succ_mul]
    omega
theorem join_to (ys : List (List Nat)) (h : ∀ y ∈ ys, y.length ≤ 10000) (hn : ys.length ≤ 1000) : mJoin "" (.lst (ys.map BS)) = rok (BS ys.flatten) := by
  have hs := sum_le ys 10000 h
  have hc : ((ys.map SX.S).map (·.length)).sum + (ys.map SX.S).length * (("" : Str)).length ≤ 16777216 := by
    rw [SX.lens, str_nil, SX.S_len, List.length_nil, Nat.mul_zero, Nat.add_zero]
    have : ys.length * 10000 ≤ 1000 * 10000 := Nat.mul_le_mul_right _ hn
    omega
  have e : mJoin "" (.lst (ys.map BS)) = if ((ys.map SX.S).map (·.length)).sum + (ys.map SX.S).length * (("" : Str)).length ≤ 16777216 then rok (.str (Txt.join "" (ys.map SX.S))) else none := by
    simp only [mJoin, toStrs_S]
  rw [e, if_pos hc, str_nil, SX.join_S, joinL_nil]
end VL

set_option Elab.async false
set_option linter.all false
set_option maxRecDepth 100000
set_option maxHeartbeats 1000000
namespace VL
open PySem PySem.Spec PyProof.Rows L2
/-! ### the head of a block -/
def kx (k : Str) : Nat := kinds.findIdx (· == k)
theorem kx_lt : ∀ k ∈ kinds, kx k < 5 := by decide +kernel
theorem kidx_ok (k : Str) (hk : k ∈ kinds) : kIndexT ["plain", "runs", "book", "base", "steps"] (.str k) = rok (.int (kx k : Nat)) := by
  have h := kx_lt k hk
  exact if_pos h
theorem lawidx_ok (k : Str) (hk : k ∈ kinds) : mIndex [.str "plain", .str "runs", .str "book", .str "base", .str "steps"] (.str k) = rok (.int (kx k : Nat)) := by
  have e1 : okN 8 (.lst [.str "plain", .str "runs", .str "book", .str "base", .str "steps"]) = true := by decide +kernel
  have e2 : okN 8 (.str k) = true := by have h := strOk_kinds k hk; exact h
  have e3 : ([.str "plain", .str "runs", .str "book", .str "base", .str "steps"] : List Dt).findIdx (pyEq (.str k)) = kx k := by
    have : ([.str "plain", .str "runs", .str "book", .str "base", .str "steps"] : List Dt) = kinds.map Dt.str := rfl
    rw [this, List.findIdx_map]
    rfl
  have h := kx_lt k hk
  unfold mIndex
  rw [e3, e1, e2, if_pos (by simpa using h)]
def Hd (k : Str) (X : List (Option Int)) : List Nat := bl 3 (kx k) ++ bl 8 ((X.length : Int) - 1)
theorem Hd_len (k : Str) (X : List (Option Int)) : (Hd k X).length = 11 := by unfold Hd; rw [List.length_append, bl_len, bl_len]
theorem Hd_01 (k : Str) (X : List (Option Int)) : is01 (Hd k X) := is01_app (bl_01 _ _) (bl_01 _ _)
theorem head_ok (k : Str) (hk : k ∈ kinds) (X : List (Option Int)) (ρ : List Dt) : d2 dAdd (dCall den_bits_of (aCons (d1 (kIndexT ["plain", "runs", "book", "base", "steps"]) (dVar 0)) (aCons (dC (.int 3)) aNil))) (dCall den_bits_of (aCons (d2 dSub (dCall (one bLen) (aCons (dVar 1) aNil)) (dC (.int 1))) (aCons (dC (.int 8)) aNil))) (.str k :: LO X :: ρ) = rok (BS (Hd k X)) :=
  Eq.trans (d2_to (Eq.trans (call_2 (Eq.trans (d1_to rfl) (kidx_ok k hk)) rfl) (bits_ok _ 3 (by decide))) (Eq.trans (call_2 (Eq.trans (d2_to (len_to rfl) rfl) (ev_sub _ _)) rfl) (bits_ok _ 8 (by decide)))) (cat_S _ _ (by rw [bl_len, bl_len]; decide))
theorem lawhead_ok (k : Str) (X : List (Option Int)) (ρ : List Dt) : d2 dAdd (dCall den_law_bits (aCons (dVar 2) (aCons (dC (.int 3)) aNil))) (dCall den_law_bits (aCons (d2 dSub (dCall (one bLen) (aCons (dVar 1) aNil)) (dC (.int 1))) (aCons (dC (.int 8)) aNil))) (.str k :: LO X :: .int (kx k : Nat) :: ρ) = rok (BS (Hd k X)) :=
  Eq.trans (d2_to (Eq.trans (call_2 rfl rfl) (law_bits_ok _ 3 (by decide))) (Eq.trans (call_2 (Eq.trans (d2_to (len_to rfl) rfl) (ev_sub _ _)) rfl) (law_bits_ok _ 8 (by decide)))) (cat_S _ _ (by rw [bl_len, bl_len]; decide))
theorem flat_len (ys : List (List Nat)) (w : Nat) (h : ∀ y ∈ ys, y.length = w) : ys.flatten.length = ys.length * w := by
  induction ys with
  | nil => simp
  | cons y ys ih =>
    rw [List.flatten_cons, List.length_append, h y List.mem_cons_self, ih fun z hz => h z (List.mem_cons_of_mem _ hz), List.length_cons, Nat.succ_mul]
    omega
abbrev Run := Option Int × Nat
/-- the runs of a list: one more of the last, or a new one -/
def runStep (R : List Run) (a : Option Int) : List Run := match R.getLast? with
  | some (b, c) => if b = a then R.dropLast ++ [(b, c + 1)] else R ++ [(a, 1)]
  | none => [(a, 1)]
def runs (L : List (Option Int)) : List Run := L.foldl runStep []
def row (p : Run) : List Nat := bl 24 (cd p.1) ++ bl 8 ((p.2 : Int) - 1)
/-- how the bits of a block lie -/
inductive Lay : Str → List (Option Int) → List Nat → Prop
  | plain (X : List (Option Int)) : Lay "plain" X (Hd "plain" X ++ (X.map fun o => bl 24 (cd o)).flatten)
  | runs (X : List (Option Int)) : Lay "runs" X (Hd "runs" X ++ bl 8 (((runs X).length : Int) - 1) ++ ((runs X).map row).flatten)
  | book (X : List (Option Int)) (w : Nat) (hw : w ≤ 99) (ew : den_width [.int ((bk X).length - 1)] = rok (.int (w : Int))) (c : (bk X).length ≤ 64) :
    Lay "book" X (Hd "book" X ++ bl 6 (((bk X).length : Int) - 1) ++ (((bk X).map fun o => bl 24 (cd o)) ++ X.map fun o => bl w ((bk X).findIdx (fun z => decide (z = o)) : Nat)).flatten)
  | base (X : List (Option Int)) (w : Nat) (hw : w ≤ 99) (ew : den_width [.int (maxI (0 :: aboves X))] = rok (.int (w : Int))) :
    Lay "base" X (Hd "base" X ++ bl 24 (cd (some (baseOf X))) ++ bl 5 (w : Int) ++ ((aboves X).map fun c => bl w c).flatten)
  | steps (M : List Int) (o : Option Int) (ho : (M.map some)[0]? = some o) (w : Nat) (hw : w ≤ 99) (ew : den_width [.int (maxI (0 :: stepsOf M))] = rok (.int (w : Int))) :
    Lay "steps" (M.map some) (Hd "steps" (M.map some) ++ bl 24 (cd o) ++ bl 5 (w : Int) ++ ((stepsOf M).map fun c => bl w c).flatten)
/-- both pack the part alike, in as many bits as its room -/
def Pk (k : Str) (X : List (Option Int)) (r : Int) : Prop := ∃ l : List Nat, den_packed [.str k, LO X] = rok (BS l) ∧ den_law_packed [.str k, LO X] = rok (BS l) ∧ (l.length : Int) = r ∧ is01 l ∧ Lay k X l
theorem room_is {k X : Dt} {r : Int} {ρ : List Dt} (h : den_room [k, X] = rok (.int r)) : dT (d2 dIsN (dCall den_room (aCons (dVar 0) (aCons (dVar 1) aNil))) (dC .non)) (k :: X :: ρ) = rok false :=
  t_to (Eq.trans (d2_to (Eq.trans (call_2 rfl rfl) h) rfl) rfl)
theorem lawk_ok (k : Str) (hk : k ∈ kinds) (ρ : List Dt) : dML mIndex (dLst (aCons (dC (.str "plain")) (aCons (dC (.str "runs")) (aCons (dC (.str "book")) (aCons (dC (.str "base")) (aCons (dC (.str "steps")) aNil)))))) (dVar 0) (.str k :: ρ) = rok (.int (kx k : Nat)) :=
  lawidx_ok k hk
/-! plain -/
theorem pack0 (X : List (Option Int)) (h : Okl X) : Pk "plain" X (11 + 24 * X.length) := by
  have hx := h.2.1
  have hk : ("plain" : Str) ∈ kinds := by decide +kernel
  let ys := X.map fun o => bl 24 (cd o)
  have hy : ∀ y ∈ ys, y.length = 24 := fun y hy => by obtain ⟨o, _, rfl⟩ := List.mem_map.mp hy; exact bl_len _ _
  have hyl : ys.length = X.length := List.length_map ..
  have hfl := flat_len ys 24 hy
  have hj : mJoin "" (.lst (ys.map BS)) = rok (BS ys.flatten) := join_to ys (fun y h => by rw [hy y h]; decide) (by omega)
  have ec : (X.filter fun _ => true).map (fun o => BS (bl 24 (cd o))) = ys.map BS := by rw [filterT, List.map_map]; rfl
  have c1 : dComp (iLst (dVar 1)) (setN 9) pYes (dCall den_bits_of (aCons (dCall den_code (aCons (dVar 9) aNil)) (aCons (dC (.int 24)) aNil))) [.str "plain", LO X, BS (Hd "plain" X), .non, .non, .non, .non, .non, .non, .non, .non] = rok (.lst (ys.map BS)) := by
    rw [← ec]
    exact comp_map OI (fun _ => true) _ X (lst_to rfl) (by omega) fun o ho => ⟨_, rfl, rfl, fun _ => plainP_ok rfl⟩
  have c2 : dComp (iLst (dVar 1)) (setN 11) pYes (dCall den_law_plain (aCons (dVar 11) aNil)) [.str "plain", LO X, .int (kx "plain" : Nat), BS (Hd "plain" X), .non, .non, .non, .non, .non, .non, .non, .non, .non, .non] = rok (.lst (ys.map BS)) := by
    rw [← ec]
    exact comp_map OI (fun _ => true) _ X (lst_to rfl) (by omega) fun o ho => ⟨_, rfl, rfl, fun _ => Eq.trans (call_1 rfl) (plain_ok o)⟩
  have cat : dAdd (BS (Hd "plain" X)) (BS ys.flatten) = rok (BS (Hd "plain" X ++ ys.flatten)) := cat_S _ _ (by rw [Hd_len, hfl]; omega)
  refine ⟨Hd "plain" X ++ ys.flatten, ?_, ?_, ?_, ?_, .plain X⟩
  · exact fn_rt (Eq.trans (skip (room_is (room0 X h).2)) (Eq.trans (seq_nx (set_to (head_ok _ hk X _))) (take_ (ky (by decide +kernel)) (ret_to (Eq.trans (d2_to rfl (Eq.trans (m_to rfl c1) hj)) cat) rfl))))
  · exact fn_rt (Eq.trans (seq_nx (set_to (lawk_ok _ hk _))) (Eq.trans (seq_nx (set_to (lawhead_ok _ X _))) (take_ (ky (by decide +kernel)) (ret_to (Eq.trans (d2_to rfl (Eq.trans (m_to rfl c2) hj)) cat) rfl))))
  · rw [List.length_append, Hd_len, hfl]
    omega
  · exact is01_app (Hd_01 _ _) (is01_flat fun y hy => by obtain ⟨o, _, rfl⟩ := List.mem_map.mp hy; exact bl_01 _ _)
end VL

set_option Elab.async false
set_option linter.all false
set_option maxRecDepth 100000
set_option maxHeartbeats 1000000
namespace VL
open PySem PySem.Spec PyProof.Rows L2
theorem ext_to {i : Nat} {f : List Dt → R Dt} {ρ : List Dt} {m l : List Dt} (h : f ρ = rok (.lst m)) (hl : ρ[i]? = some (.lst l)) (hb : l.length + m.length ≤ 16777216) : dExtend i f ρ = rok (.nx (ρ.set i (.lst (l ++ m)))) := by
  unfold dExtend
  simp only [ev_aCons, ev_aNil, h, rbind_ok]
  rw [ev_onLst i _ ρ l hl]
  have : kExtend [.lst m] l = rok (l ++ m) := if_pos hb
  rw [this, rbind_ok]
theorem idx_ok (W : List (Option Int)) (o : Option Int) (h : o ∈ W) : mIndex (W.map OI) (OI o) = rok (.int (W.findIdx (fun z => decide (z = o)) : Nat)) ∧ W.findIdx (fun z => decide (z = o)) < W.length := by
  have e : (W.map OI).findIdx (pyEq (OI o)) = W.findIdx (fun z => decide (z = o)) := by
    rw [List.findIdx_map]
    congr 1
    funext z
    exact eqv_OI z o
  have hlt : W.findIdx (fun z => decide (z = o)) < W.length := List.findIdx_lt_length.mpr ⟨o, h, decide_eq_true rfl⟩
  refine ⟨?_, hlt⟩
  unfold mIndex
  rw [e, List.length_map, decide_eq_true hlt, okN_LOI, okN_OI]
  rfl
/-! book -/
theorem pack2 (X : List (Option Int)) (h : Okl X) (w : Nat) (hw : w ≤ 99) (ew : den_width [.int ((bk X).length - 1)] = rok (.int (w : Int))) (c : (bk X).length ≤ 64) : Pk "book" X (17 + 24 * (bk X).length + X.length * (w : Int)) := by
  have hx := h.2.1
  have hl : X.length ≤ 1000 := by omega
  have hp := bk_pos X h.1
  have hk : ("book" : Str) ∈ kinds := by decide +kernel
  have hroom := (room2x X h w (by omega) ew c).2
  let ws := (bk X).map fun o => bl 24 (cd o)
  let xs := X.map fun o => bl w ((bk X).findIdx (fun z => decide (z = o)) : Nat)
  have hws : ∀ y ∈ ws, y.length = 24 := fun y hy => by obtain ⟨o, _, rfl⟩ := List.mem_map.mp hy; exact bl_len _ _
  have hxs : ∀ y ∈ xs, y.length = w := fun y hy => by obtain ⟨o, _, rfl⟩ := List.mem_map.mp hy; exact bl_len _ _
  have hwl : ws.length = (bk X).length := List.length_map ..
  have hxl : xs.length = X.length := List.length_map ..
  have fw := flat_len ws 24 hws
  have fx := flat_len xs w hxs
  have hm : ∀ o ∈ X, o ∈ bk X := fun o ho => (bk_mem X o).mpr ho
  have ec1 : ((bk X).filter fun _ => true).map (fun o => BS (bl 24 (cd o))) = ws.map BS := by rw [filterT, List.map_map]; rfl
  have ec2 : (X.filter fun _ => true).map (fun o => BS (bl w ((bk X).findIdx (fun z => decide (z = o)) : Nat))) = xs.map BS := by rw [filterT, List.map_map]; rfl
  let lw := bl 6 (((bk X).length : Int) - 1)
  have hlw : lw.length = 6 := bl_len _ _
  have hall : ∀ y ∈ ws ++ xs, y.length ≤ 10000 := fun y hy => by
    rcases List.mem_append.mp hy with hy | hy
    · rw [hws y hy]; decide
    · rw [hxs y hy]; omega
  have hb : xs.length * w ≤ 100 * 99 := Nat.mul_le_mul (by omega) hw
  refine ⟨Hd "book" X ++ lw ++ (ws ++ xs).flatten, ?_, ?_, ?_, ?_, .book X w hw ew c⟩
  · have c1 : dComp (iLst (dVar 5)) (setN 9) pYes (dCall den_bits_of (aCons (dCall den_code (aCons (dVar 9) aNil)) (aCons (dC (.int 24)) aNil))) [.str "book", LO X, BS (Hd "book" X), .non, .non, LO (bk X), .non, .non, .non, .non, .non] = rok (.lst (ws.map BS)) := by
      rw [← ec1]
      exact comp_map OI (fun _ => true) _ (bk X) (lst_to rfl) (by omega) fun o ho => ⟨_, rfl, rfl, fun _ => plainP_ok rfl⟩
    have c2 : dComp (iLst (dVar 1)) (setN 9) pYes (dCall den_bits_of (aCons (dML mIndex (dVar 5) (dVar 9)) (aCons (dVar 6) aNil))) [.str "book", LO X, BS (Hd "book" X), .non, .lst (ws.map BS), LO (bk X), .int (w : Int), .non, .non, .non, .non] = rok (.lst (xs.map BS)) := by
      rw [← ec2]
      exact comp_map OI (fun _ => true) _ X (lst_to rfl) (by omega) fun o ho => ⟨_, rfl, rfl, fun _ => Eq.trans (call_2 (Eq.trans (ml_to rfl rfl) (idx_ok (bk X) o (hm o ho)).1) rfl) (bits_ok _ w (by omega))⟩
    have hj : mJoin "" (.lst (ws.map BS ++ xs.map BS)) = rok (BS (ws ++ xs).flatten) := by
      rw [← List.map_append]
      exact join_to (ws ++ xs) hall (by rw [List.length_append]; omega)
    have cat1 : dAdd (BS (Hd "book" X)) (BS lw) = rok (BS (Hd "book" X ++ lw)) := cat_S _ _ (by rw [Hd_len, hlw]; decide)
    have cat2 : dAdd (BS (Hd "book" X ++ lw)) (BS (ws ++ xs).flatten) = rok (BS (Hd "book" X ++ lw ++ (ws ++ xs).flatten)) := cat_S _ _ (by rw [List.length_append, Hd_len, hlw, List.flatten_append, List.length_append, fw, fx]; omega)
    exact fn_rt (Eq.trans (skip (room_is hroom)) (Eq.trans (seq_nx (set_to (head_ok _ hk X _))) (Eq.trans (skip (kn (by decide +kernel))) (Eq.trans (skip (kn (by decide +kernel))) (take_ (ky (by decide +kernel)) (Eq.trans (seq_nx (set_to (Eq.trans (call_1 rfl) (book_ok X hl)))) (Eq.trans (seq_nx (set_to c1)) (Eq.trans (seq_nx (set_to (Eq.trans (call_1 (Eq.trans (d2_to (len_to rfl) rfl) (ev_sub _ _))) ew))) (Eq.trans (seq_nx (ext_to c2 rfl (by simp only [List.length_map] ; omega))) (ret_to (Eq.trans (d2_to (Eq.trans (d2_to rfl (Eq.trans (call_2 (Eq.trans (d2_to (len_to rfl) rfl) (ev_sub _ _)) rfl) (bits_ok _ 6 (by decide)))) cat1) (Eq.trans (m_to rfl rfl) hj)) cat2) rfl))))))))))
  · have c1 : ∀ y z, dComp (iLst (dVar 8)) (setN 12) pYes (dCall den_law_plain (aCons (dVar 12) aNil)) [.str "book", LO X, .int (kx "book" : Nat), BS (Hd "book" X), .non, .non, .non, y, LO (bk X), .non, .non, .non, z, .non] = rok (.lst (ws.map BS)) := by
      intro y z
      rw [← ec1]
      exact comp_map OI (fun _ => true) _ (bk X) (lst_to rfl) (by omega) fun o ho => ⟨_, rfl, rfl, fun _ => Eq.trans (call_1 rfl) (plain_ok o)⟩
    have c2 : ∀ y z, dComp (iLst (dVar 1)) (setN 11) pYes (dCall den_law_bits (aCons (dML mIndex (dVar 8) (dVar 11)) (aCons (dVar 7) aNil))) [.str "book", LO X, .int (kx "book" : Nat), BS (Hd "book" X), .non, y, .non, .int (w : Int), LO (bk X), .non, .non, z, .non, .non] = rok (.lst (xs.map BS)) := by
      intro y z
      rw [← ec2]
      exact comp_map OI (fun _ => true) _ X (lst_to rfl) (by omega) fun o ho => ⟨_, rfl, rfl, fun _ => Eq.trans (call_2 (Eq.trans (ml_to rfl rfl) (idx_ok (bk X) o (hm o ho)).1) rfl) (law_bits_ok _ w (by omega))⟩
    have ebl : dLst (aCons (dCall den_law_bits (aCons (d2 dSub (dCall (one bLen) (aCons (dVar 8) aNil)) (dC (.int 1))) (aCons (dC (.int 6)) aNil))) aNil) [.str "book", LO X, .int (kx "book" : Nat), BS (Hd "book" X), .non, .non, .non, .int (w : Int), LO (bk X), .non, .non, .non, .non, .non] = rok (.lst [BS lw]) :=
      lst1_to (Eq.trans (call_2 (Eq.trans (d2_to (len_to rfl) rfl) (ev_sub _ _)) rfl) (law_bits_ok _ 6 (by decide)))
    have hj : mJoin "" (.lst ((BS lw :: ws.map BS) ++ xs.map BS)) = rok (BS (lw ++ (ws ++ xs).flatten)) := by
      have := join_to (lw :: (ws ++ xs)) (fun y hy => by
        rcases List.mem_cons.mp hy with rfl | hy
        · rw [hlw]; decide
        · exact hall y hy) (by rw [List.length_cons, List.length_append]; omega)
      rw [List.map_cons, List.map_append, List.flatten_cons] at this
      exact this
    have cat : dAdd (BS (Hd "book" X)) (BS (lw ++ (ws ++ xs).flatten)) = rok (BS (Hd "book" X ++ lw ++ (ws ++ xs).flatten)) := by
      rw [List.append_assoc]
      exact cat_S _ _ (by rw [List.length_append, Hd_len, hlw, List.flatten_append, List.length_append, fw, fx]; omega)
    exact fn_rt (Eq.trans (seq_nx (set_to (lawk_ok _ hk _))) (Eq.trans (seq_nx (set_to (lawhead_ok _ X _))) (Eq.trans (skip (kn (by decide +kernel))) (Eq.trans (skip (kn (by decide +kernel))) (take_ (ky (by decide +kernel)) (Eq.trans (seq_nx (set_to (Eq.trans (call_1 rfl) (law_book_ok X hl)))) (Eq.trans (seq_nx (set_to (Eq.trans (call_1 (Eq.trans (d2_to (len_to rfl) rfl) (ev_sub _ _))) ew))) (Eq.trans (seq_nx (set_to (Eq.trans (d2_to ebl (c1 _ _)) (cat_to _ _ (by simp only [List.length_map, List.length_singleton]; omega))))) (ret_to (Eq.trans (d2_to rfl (Eq.trans (m_to rfl (Eq.trans (d2_to rfl (c2 _ _)) (cat_to _ _ (by simp only [List.length_append, List.length_map, List.length_singleton]; omega)))) hj)) cat) rfl)))))))))
  · rw [List.length_append, List.length_append, Hd_len, hlw, List.flatten_append, List.length_append, fw, fx, hwl, hxl]
    have : ((X.length * w : Nat) : Int) = (X.length : Int) * (w : Int) := Int.natCast_mul _ _
    omega
  · exact is01_app (is01_app (Hd_01 _ _) (bl_01 _ _)) (is01_flat fun y hy => by
      rcases List.mem_append.mp hy with hy | hy
      · obtain ⟨o, _, rfl⟩ := List.mem_map.mp hy; exact bl_01 _ _
      · obtain ⟨o, _, rfl⟩ := List.mem_map.mp hy; exact bl_01 _ _)
end VL

set_option Elab.async false
set_option linter.all false
set_option maxRecDepth 100000
set_option maxHeartbeats 1000000
namespace VL
open PySem PySem.Spec PyProof.Rows L2
def cds (w : Nat) (l : List Int) : List Nat := (l.map fun c => bl w c).flatten
theorem cds_len (w : Nat) (l : List Int) : (cds w l).length = l.length * w := by
  unfold cds
  rw [flat_len _ w fun y hy => by obtain ⟨o, _, rfl⟩ := List.mem_map.mp hy; exact bl_len _ _, List.length_map]
theorem cds_01 (w : Nat) (l : List Int) : is01 (cds w l) := is01_flat fun y hy => by obtain ⟨o, _, rfl⟩ := List.mem_map.mp hy; exact bl_01 _ _
theorem cds_join (w : Nat) (l : List Int) (hw : w ≤ 99) (hl : l.length ≤ 1000) : mJoin "" (.lst ((l.map fun c => bl w c).map BS)) = rok (BS (cds w l)) :=
  join_to _ (fun y hy => by obtain ⟨o, _, rfl⟩ := List.mem_map.mp hy; rw [bl_len]; omega) (by rw [List.length_map]; omega)
/-- the end of base and steps, the program's -/
theorem tailP (k x hd1 : Dt) (hd : List Nat) (l : List Int) (o : Option Int) (w : Nat) (hw : w ≤ 99) (hl : l.length ≤ 1000) (hh : hd.length = 11) (ew : den_widest [LI l] = rok (.int (w : Int))) (a b c d e f : Dt) :
    (dSeq (dSet 6 (dCall den_widest (aCons (dVar 7) aNil))) (dRet .flat (d2 dAdd (d2 dAdd (d2 dAdd (dVar 2) (dCall den_bits_of (aCons (dCall den_code (aCons (dVar 8) aNil)) (aCons (dC (.int 24)) aNil)))) (dCall den_bits_of (aCons (dVar 6) (aCons (dC (.int 5)) aNil)))) (dM mJoin (dC (.str "")) (dComp (iLst (dVar 7)) (setN 10) pYes (dCall den_bits_of (aCons (dVar 10) (aCons (dVar 6) aNil))))))))
    [k, x, BS hd, a, b, c, d, LI l, OI o, e, f] = rok (.rt (BS (hd ++ bl 24 (cd o) ++ bl 5 (w : Int) ++ cds w l))) := by
  have ec : (l.filter fun _ => true).map (fun c => BS (bl w c)) = (l.map fun c => bl w c).map BS := by rw [filterT, List.map_map]; rfl
  have c1 : dComp (iLst (dVar 7)) (setN 10) pYes (dCall den_bits_of (aCons (dVar 10) (aCons (dVar 6) aNil))) [k, x, BS hd, a, b, c, .int (w : Int), LI l, OI o, e, f] = rok (.lst ((l.map fun c => bl w c).map BS)) := by
    rw [← ec]
    exact comp_map Dt.int (fun _ => true) _ l (lst_to rfl) (by omega) fun i hi => ⟨_, rfl, rfl, fun _ => Eq.trans (call_2 rfl rfl) (bits_ok i w (by omega))⟩
  have b1 : l.length * w ≤ 1000 * 99 := Nat.mul_le_mul hl hw
  exact Eq.trans (seq_nx (set_to (Eq.trans (call_1 rfl) ew))) (ret_to (Eq.trans (d2_to (Eq.trans (d2_to (Eq.trans (d2_to rfl (plainP_ok rfl)) (cat_S _ _ (by rw [hh, bl_len]; decide))) (Eq.trans (call_2 rfl rfl) (bits_ok _ 5 (by decide)))) (cat_S _ _ (by rw [List.length_append, hh, bl_len, bl_len]; decide))) (Eq.trans (m_to rfl c1) (cds_join w l hw hl))) (cat_S _ _ (by rw [List.length_append, List.length_append, hh, bl_len, bl_len, cds_len]; omega))) rfl)
/-- the law's -/
theorem tailL (k x : Dt) (hd : List Nat) (l : List Int) (o : Option Int) (w : Nat) (hw : w ≤ 99) (hl : l.length ≤ 1000) (hh : hd.length = 11) (ew : den_width [.int (maxI (0 :: l))] = rok (.int (w : Int))) (a b c d e f g i j : Dt) :
    (dSeq (dSet 7 (dCall den_law_need (aCons (dCall (one bMaxL) (aCons (d2 dCat (dLst (aCons (dC (.int 0)) aNil)) (dVar 9)) aNil)) aNil))) (dSeq (dSet 3 (d2 dAdd (d2 dAdd (dVar 3) (dCall den_law_plain (aCons (dVar 10) aNil))) (dCall den_law_bits (aCons (dVar 7) (aCons (dC (.int 5)) aNil))))) (dRet .flat (d2 dAdd (dVar 3) (dM mJoin (dC (.str "")) (dComp (iLst (dVar 9)) (setN 13) pYes (dCall den_law_bits (aCons (dVar 13) (aCons (dVar 7) aNil)))))))))
    [k, x, a, BS hd, b, c, d, e, f, LI l, OI o, g, i, j] = rok (.rt (BS (hd ++ bl 24 (cd o) ++ bl 5 (w : Int) ++ cds w l))) := by
  have ec : (l.filter fun _ => true).map (fun c => BS (bl w c)) = (l.map fun c => bl w c).map BS := by rw [filterT, List.map_map]; rfl
  have c1 : ∀ z, dComp (iLst (dVar 9)) (setN 13) pYes (dCall den_law_bits (aCons (dVar 13) (aCons (dVar 7) aNil))) [k, x, a, z, b, c, d, .int (w : Int), f, LI l, OI o, g, i, j] = rok (.lst ((l.map fun c => bl w c).map BS)) := by
    intro z
    rw [← ec]
    exact comp_map Dt.int (fun _ => true) _ l (lst_to rfl) (by omega) fun i hi => ⟨_, rfl, rfl, fun _ => Eq.trans (call_2 rfl rfl) (law_bits_ok i w hw)⟩
  have b1 : l.length * w ≤ 1000 * 99 := Nat.mul_le_mul hl hw
  have cc : d2 dCat (dLst (aCons (dC (.int 0)) aNil)) (dVar 9) [k, x, a, BS hd, b, c, d, e, f, LI l, OI o, g, i, j] = rok (.lst ((0 :: l).map Dt.int)) :=
    Eq.trans (d2_to (lst1_to rfl) rfl) (cat_to [.int 0] _ (by rw [List.length_map, List.length_singleton]; omega))
  exact Eq.trans (seq_nx (set_to (Eq.trans (call_1 (Eq.trans (call_1 cc) (bMaxL_to _ (by simp)))) ew))) (Eq.trans (seq_nx (set_to (Eq.trans (d2_to (Eq.trans (d2_to rfl (Eq.trans (call_1 rfl) (plain_ok o))) (cat_S _ _ (by rw [hh, bl_len]; decide))) (Eq.trans (call_2 rfl rfl) (law_bits_ok _ 5 (by decide)))) (cat_S _ _ (by rw [List.length_append, hh, bl_len, bl_len]; decide))))) (ret_to (Eq.trans (d2_to rfl (Eq.trans (m_to rfl (c1 _)) (cds_join w l hw hl))) (cat_S _ _ (by rw [List.length_append, List.length_append, hh, bl_len, bl_len, cds_len]; omega))) rfl))
theorem pack3 (X : List (Option Int)) (h : Okl X) (r : Int) (hr : den_room [.str "base", LO X] = rok (.int r)) : Pk "base" X r := by
  have hx := h.2.1
  have hl : X.length ≤ 1000 := by omega
  have hk : ("base" : Str) ∈ kinds := by decide +kernel
  obtain ⟨w, hw, e1, e2, _, e4⟩ := room3x X h
  have er : r = 40 + X.length * w := by rw [hr] at e4; injection e4 with e4; injection e4 with e4; injection e4
  obtain ⟨w, rfl⟩ := Int.eq_ofNat_of_zero_le hw.1
  have hal : (aboves X).length = X.length := List.length_map ..
  have hne : (aboves X).isEmpty = false := by
    have := h.1
    rw [← hal] at this
    cases q : aboves X <;> simp [q] at this ⊢
  have hmz := maxI_zero (aboves X) (fun x hx => (above_bd X h.2.2 x hx).1)
  rw [hne] at hmz
  simp only [Bool.false_eq_true, if_false] at hmz
  rw [← hmz] at e2
  have hpos : 0 < X.length := h.1
  have a0 : ∀ ρ : List Dt, d2 dIx (dVar 1) (dC (.int 0)) (.str "base" :: LO X :: ρ) = rok (OI (X[0]'hpos)) := fun ρ => Eq.trans (d2_to rfl rfl) (at_OI X 0 hpos)
  have hn : ∀ z y : Dt, dComp (iLst (dVar 1)) (setN 11) (dT (d2 dNotN (dVar 11) (dC .non))) (dVar 11) [.str "base", LO X, y, z, .non, .non, .non, .non, .non, LI (aboves X), OI (X[0]'hpos), .non, .non, .non] = rok (.lst ((nums X).map Dt.int)) := fun z y => pick_ok X hl 11 1 _ rfl (fun d => rfl)
  have hb : ∀ z y : Dt, d2 (bDflt minI) (dComp (iLst (dVar 1)) (setN 11) (dT (d2 dNotN (dVar 11) (dC .non))) (dVar 11)) (dC (.int 0)) [.str "base", LO X, y, z, .non, .non, .non, .non, .non, LI (aboves X), OI (X[0]'hpos), .non, .non, .non] = rok (OI (some (baseOf X))) := fun z y => by
    refine Eq.trans (d2_to (hn z y) rfl) (Eq.trans (bDflt_to _ _ _) ?_)
    unfold baseOf
    split <;> rfl
  refine ⟨Hd "base" X ++ bl 24 (cd (some (baseOf X))) ++ bl 5 (w : Int) ++ cds w (aboves X), ?_, ?_, ?_, ?_, .base X w (by omega) e2⟩
  · exact fn_rt (Eq.trans (skip (room_is hr)) (Eq.trans (seq_nx (set_to (head_ok _ hk X _))) (Eq.trans (skip (kn (by decide +kernel))) (Eq.trans (skip (kn (by decide +kernel))) (Eq.trans (skip (kn (by decide +kernel))) (Eq.trans (seq_nx (set_to (Eq.trans (if_t (ky (by decide +kernel))) (Eq.trans (call_1 rfl) (codes_ok X hl))))) (Eq.trans (seq_nx (set_to (Eq.trans (if_t (ky (by decide +kernel))) (Eq.trans (call_1 rfl) (base_ok X hl))))) (tailP _ _ .non _ _ (some (baseOf X)) w (by omega) (by omega) (Hd_len _ _) e1 _ _ _ _ _ _))))))))
  · exact fn_rt (Eq.trans (seq_nx (set_to (lawk_ok _ hk _))) (Eq.trans (seq_nx (set_to (lawhead_ok _ X _))) (Eq.trans (skip (kn (by decide +kernel))) (Eq.trans (skip (kn (by decide +kernel))) (Eq.trans (skip (kn (by decide +kernel))) (Eq.trans (seq_nx (set_to (Eq.trans (if_t (ky (by decide +kernel))) (Eq.trans (call_1 rfl) (law_above_ok X hl))))) (Eq.trans (seq_nx (set_to (a0 _))) (Eq.trans (seq_nx (Eq.trans (ifS_t (ky (by decide +kernel))) (set_to (hb _ _)))) (tailL _ _ _ _ (some (baseOf X)) w (by omega) (by omega) (Hd_len _ _) e2 _ _ _ _ _ _ _ _ _)))))))))
  · rw [List.length_append, List.length_append, List.length_append, Hd_len, bl_len, bl_len, cds_len, hal, er]
    have : ((X.length * w : Nat) : Int) = (X.length : Int) * (w : Int) := Int.natCast_mul _ _
    omega
  · exact is01_app (is01_app (is01_app (Hd_01 _ _) (bl_01 _ _)) (bl_01 _ _)) (cds_01 _ _)
theorem pack4 (M : List Int) (h : Okl (M.map some)) (r : Int) (hr : den_room [.str "steps", LO (M.map some)] = rok (.int r)) : Pk "steps" (M.map some) r := by
  have hx := h.2.1
  have h1 := h.1
  have hl : (M.map some).length ≤ 1000 := by omega
  have hM : (M.map some).length = M.length := List.length_map ..
  have hk : ("steps" : Str) ∈ kinds := by decide +kernel
  obtain ⟨w, hw, e1, e2, _, e4⟩ := room4x M h
  have er : r = 40 + ((M.map some).length - 1) * w := by rw [hr] at e4; injection e4 with e4; injection e4 with e4; injection e4
  obtain ⟨w, rfl⟩ := Int.eq_ofNat_of_zero_le hw.1
  have hsl : (stepsOf M).length = M.length - 1 := by unfold stepsOf; rw [List.length_map, List.length_range]
  have hL : LO (M.map some) = .lst (M.map Dt.int) := by unfold LO; rw [← mapI]
  have l1 := law_steps_ok M (by omega)
  have l2 := step_codes_ok M (by omega)
  rw [← hL] at l1 l2
  have hpos : 0 < (M.map some).length := h1
  have a0 : ∀ ρ : List Dt, d2 dIx (dVar 1) (dC (.int 0)) (.str "steps" :: LO (M.map some) :: ρ) = rok (OI ((M.map some)[0]'hpos)) := fun ρ => Eq.trans (d2_to rfl rfl) (at_OI (M.map some) 0 hpos)
  refine ⟨Hd "steps" (M.map some) ++ bl 24 (cd ((M.map some)[0]'hpos)) ++ bl 5 (w : Int) ++ cds w (stepsOf M), ?_, ?_, ?_, ?_, .steps M _ (List.getElem?_eq_getElem hpos) w (by omega) e2⟩
  · exact fn_rt (Eq.trans (skip (room_is hr)) (Eq.trans (seq_nx (set_to (head_ok _ hk _ _))) (Eq.trans (skip (kn (by decide +kernel))) (Eq.trans (skip (kn (by decide +kernel))) (Eq.trans (skip (kn (by decide +kernel))) (Eq.trans (seq_nx (set_to (Eq.trans (if_f (kn (by decide +kernel))) (Eq.trans (call_1 rfl) l2)))) (Eq.trans (seq_nx (set_to (Eq.trans (if_f (kn (by decide +kernel))) (a0 _)))) (tailP _ _ .non _ _ ((M.map some)[0]'hpos) w (by omega) (by omega) (Hd_len _ _) e1 _ _ _ _ _ _))))))))
  · exact fn_rt (Eq.trans (seq_nx (set_to (lawk_ok _ hk _))) (Eq.trans (seq_nx (set_to (lawhead_ok _ _ _))) (Eq.trans (skip (kn (by decide +kernel))) (Eq.trans (skip (kn (by decide +kernel))) (Eq.trans (skip (kn (by decide +kernel))) (Eq.trans (seq_nx (set_to (Eq.trans (if_f (kn (by decide +kernel))) (Eq.trans (call_1 rfl) l1)))) (Eq.trans (seq_nx (set_to (a0 _))) (Eq.trans (skip (kn (by decide +kernel))) (tailL _ _ _ _ ((M.map some)[0]'hpos) w (by omega) (by omega) (Hd_len _ _) e2 _ _ _ _ _ _ _ _ _)))))))))
  · rw [List.length_append, List.length_append, List.length_append, Hd_len, bl_len, bl_len, cds_len, hsl, er, hM]
    have : ((M.length - 1 : Nat) : Int) = (M.length : Int) - 1 := by omega
    have t : (((M.length - 1) * w : Nat) : Int) = ((M.length : Int) - 1) * (w : Int) := by rw [Int.natCast_mul, this]
    omega
  · exact is01_app (is01_app (is01_app (Hd_01 _ _) (bl_01 _ _)) (bl_01 _ _)) (cds_01 _ _)

end VL

set_option Elab.async false
set_option linter.all false
set_option maxRecDepth 100000
set_option maxHeartbeats 1000000
namespace VL
open PySem PySem.Spec PyProof.Rows L2
/-! ### runs as pairs -/
def runT (p : Run) : Dt := .tup [OI p.1, .int (p.2 : Int)]
theorem runs_snoc (L : List (Option Int)) (a : Option Int) : runs (L ++ [a]) = runStep (runs L) a := by unfold runs; rw [List.foldl_append]; rfl
theorem runStep_snoc (R : List Run) (b : Option Int) (c : Nat) (a : Option Int) : runStep (R ++ [(b, c)]) a = if b = a then R ++ [(b, c + 1)] else R ++ [(b, c)] ++ [(a, 1)] := by
  unfold runStep
  rw [List.getLast?_append]
  simp
theorem runs_len (L : List (Option Int)) : (runs L).length ≤ L.length := by
  refine snoc_ind (P := fun L => (runs L).length ≤ L.length) (Nat.le_refl _) ?_ L
  intro l a ih
  show (runs (l ++ [a])).length ≤ _
  rw [runs_snoc]
  by_cases q : runs l = []
  · rw [q]; simp [runStep]
  · obtain ⟨R, ⟨b, c⟩, e⟩ := len_last _ q
    rw [e] at ih ⊢
    rw [runStep_snoc]
    split <;> simp at ih ⊢ <;> omega
def runsJ (L0 : Dt) (pre : List (Option Int)) (ρ : List Dt) : Prop := ∃ y : Dt, ρ = [L0, .lst ((runs pre).map runT), y]
theorem runsOf_ok (L : List (Option Int)) (h : L.length ≤ 1000) : den_runs_of [.lst (L.map OI)] = rok (.lst ((runs L).map runT)) := by
  have hst : ∀ (pre : List (Option Int)) (a : Option Int) (ρ : List Dt), pre.length ≤ 1000 → runsJ (.lst (L.map OI)) pre ρ → ∃ ρ1 ρ2, setN 2 (OI a) ρ = some ρ1 ∧
      (dIfS (pAnd (dTr (dVar 1)) (dT (d2 dEq (d2 dIx (d2 dIx (dVar 1) (d1 dNeg (dC (.int 1)))) (dC (.int 0))) (dVar 2)))) (dPut 1 (dTup (aCons (dVar 2) (aCons (d2 dAdd (d2 dIx (d2 dIx (dVar 1) (d1 dNeg (dC (.int 1)))) (dC (.int 1))) (dC (.int 1))) aNil))) (d1 dNeg (dC (.int 1)))) (dAppend 1 (dTup (aCons (dVar 2) (aCons (dC (.int 1)) aNil))))) ρ1 = rok (.nx ρ2) ∧ runsJ (.lst (L.map OI)) (pre ++ [a]) ρ2 := by
    rintro pre a ρ hpl ⟨y, rfl⟩
    have hl := runs_len pre
    refine ⟨[.lst (L.map OI), .lst ((runs pre).map runT), OI a], ?_⟩
    have app : (dAppend 1 (dTup (aCons (dVar 2) (aCons (dC (.int 1)) aNil)))) [.lst (L.map OI), .lst ((runs pre).map runT), OI a] = rok (.nx [.lst (L.map OI), .lst ((runs pre).map runT ++ [.tup [OI a, .int 1]]), OI a]) := app_to (tup2_to rfl rfl) rfl (by rw [List.length_map]; omega)
    by_cases q : runs pre = []
    · rw [q] at app ⊢
      refine ⟨_, rfl, Eq.trans (ifS_f rfl) app, OI a, ?_⟩
      rw [runs_snoc, q]
      rfl
    · obtain ⟨R, ⟨b, c⟩, e⟩ := len_last _ q
      rw [e] at app hl ⊢
      have em : (R ++ [(b, c)]).map runT = R.map runT ++ [.tup [OI b, .int (c : Int)]] := by rw [List.map_append]; rfl
      rw [em] at app ⊢
      have e0 : (dTr (dVar 1)) [.lst (L.map OI), .lst (R.map runT ++ [.tup [OI b, .int (c : Int)]]), OI a] = rok true := Eq.trans (tr_to rfl) (tru_snoc _ _)
      have e1 : d2 dIx (dVar 1) (d1 dNeg (dC (.int 1))) [.lst (L.map OI), .lst (R.map runT ++ [.tup [OI b, .int (c : Int)]]), OI a] = rok (.tup [OI b, .int (c : Int)]) := by
        refine Eq.trans (d2_to rfl rfl) ?_
        rw [ev_ixL, atI_last]
        rfl
      have e2 : dT (d2 dEq (d2 dIx (d2 dIx (dVar 1) (d1 dNeg (dC (.int 1)))) (dC (.int 0))) (dVar 2)) [.lst (L.map OI), .lst (R.map runT ++ [.tup [OI b, .int (c : Int)]]), OI a] = rok (decide (b = a)) :=
        t_to (Eq.trans (d2_to (Eq.trans (d2_to e1 rfl) rfl) rfl) (ev_eqO b a))
      by_cases z : b = a
      · subst z
        rw [decide_eq_true rfl] at e2
        have e3 : d2 dAdd (d2 dIx (d2 dIx (dVar 1) (d1 dNeg (dC (.int 1)))) (dC (.int 1))) (dC (.int 1)) [.lst (L.map OI), .lst (R.map runT ++ [.tup [OI b, .int (c : Int)]]), OI b] = rok (.int ((c : Int) + 1)) :=
          Eq.trans (d2_to (Eq.trans (d2_to e1 rfl) rfl) rfl) (ev_add _ _)
        have put := put_to (i := 1) (fi := d1 dNeg (dC (.int 1))) (ρ := [.lst (L.map OI), .lst (R.map runT ++ [.tup [OI b, .int (c : Int)]]), OI b]) (tup2_to (f1 := dVar 2) rfl e3) rfl rfl (by rw [List.length_append]; exact ixN_last (R.map runT).length)
        rw [List.set_append_right _ _ (Nat.le_refl _), Nat.sub_self] at put
        refine ⟨_, rfl, Eq.trans (ifS_t (Eq.trans (and_t e0) e2)) put, OI b, ?_⟩
        rw [runs_snoc, e, runStep_snoc, if_pos rfl, List.map_append]
        rfl
      · rw [decide_eq_false z] at e2
        refine ⟨_, rfl, Eq.trans (ifS_f (Eq.trans (and_t e0) e2)) app, OI a, ?_⟩
        rw [runs_snoc, e, runStep_snoc, if_neg z, List.map_append, em]
        rfl
  obtain ⟨ρ', e, y, rfl⟩ := forL_inv OI (runsJ (.lst (L.map OI))) L [] [.lst (L.map OI), .lst [], .non] ⟨_, rfl⟩ fun pre a post ρ e hI => hst pre a ρ (by have := congrArg List.length e; simp at this; omega) hI
  exact fn_rt (Eq.trans (seq_nx (set_to rfl)) (Eq.trans (seq_nx (Eq.trans (for_to (lst_to rfl)) e)) (ret_to rfl rfl)))
end VL

set_option Elab.async false
set_option linter.all false
set_option maxRecDepth 100000
set_option maxHeartbeats 1000000
namespace VL
open PySem PySem.Spec PyProof.Rows L2
def nw (L : List (Option Int)) (k : Nat) : Bool := decide (k = 0) || decide (L[k]? ≠ L[k - 1]?)
def sts (L : List (Option Int)) : List Nat := (List.range L.length).filter (nw L)
def prs (L : List (Option Int)) (n : Nat) : List Nat → List Run
  | [] => []
  | [x] => [((L[x]?).join, n - x)]
  | x :: y :: r => ((L[x]?).join, y - x) :: prs L n (y :: r)
theorem prs_snoc (L : List (Option Int)) (n x : Nat) : ∀ s, prs L n (s ++ [x]) = prs L x s ++ [((L[x]?).join, n - x)]
  | [] => rfl
  | [y] => rfl
  | y :: z :: r => by
    have := prs_snoc L n x (z :: r)
    show ((L[y]?).join, z - y) :: prs L n ((z :: r) ++ [x]) = _
    rw [this]
    rfl
theorem prs_congr (L : List (Option Int)) (a : Option Int) (n : Nat) : ∀ s, (∀ x ∈ s, x < L.length) → prs (L ++ [a]) n s = prs L n s
  | [], _ => rfl
  | [x], h => by
    have := h x (by simp)
    simp only [prs, List.getElem?_append_left this]
  | x :: y :: r, h => by
    have h1 := h x (by simp)
    have h2 := prs_congr L a n (y :: r) fun z hz => h z (List.mem_cons_of_mem _ hz)
    simp only [prs, List.getElem?_append_left h1, h2]
theorem sts_lt (L : List (Option Int)) : ∀ x ∈ sts L, x < L.length := fun x hx => List.mem_range.mp (List.mem_filter.mp hx).1
theorem sts_snoc (L : List (Option Int)) (a : Option Int) : sts (L ++ [a]) = sts L ++ if L = [] ∨ L.getLast? ≠ some a then [L.length] else [] := by
  unfold sts
  rw [List.length_append, List.length_singleton, List.range_succ, List.filter_append]
  have h1 : (List.range L.length).filter (nw (L ++ [a])) = (List.range L.length).filter (nw L) := by
    refine List.filter_congr fun i hi => ?_
    have hi := List.mem_range.mp hi
    unfold nw
    rw [List.getElem?_append_left (by omega), List.getElem?_append_left (by omega)]
  rw [h1]
  congr 1
  rw [List.filter_cons, List.filter_nil]
  have h2 : nw (L ++ [a]) L.length = decide (L = [] ∨ L.getLast? ≠ some a) := by
    unfold nw
    by_cases q : L = []
    · subst q; simp
    · obtain ⟨l, b, rfl⟩ := len_last L q
      rw [List.getElem?_append_right (Nat.le_refl _), Nat.sub_self, List.getElem?_append_left (by simp)]
      have e : (l ++ [b])[(l ++ [b]).length - 1]? = some b := by
        rw [List.length_append, List.length_singleton, Nat.add_sub_cancel, List.getElem?_append_right (Nat.le_refl _), Nat.sub_self]
        rfl
      rw [e, List.getLast?_append]
      have n0 : ¬ ((l ++ [b]).length = 0) := by simp
      simp only [n0, decide_false, Bool.false_or, q, false_or]
      by_cases c : a = b
      · subst c; simp
      · have c' : ¬ b = a := fun k => c k.symm
        simp [c, c']
  rw [h2]
  by_cases q : L = [] ∨ L.getLast? ≠ some a
  · rw [decide_eq_true q, if_pos q]; rfl
  · rw [decide_eq_false q, if_neg q]; rfl
theorem runs_last (L : List (Option Int)) : ∀ R b c, runs L = R ++ [(b, c)] → L.getLast? = some b := by
  refine snoc_ind (P := fun L => ∀ R b c, runs L = R ++ [(b, c)] → L.getLast? = some b) (fun R b c e => by simp [runs] at e) ?_ L
  intro l a ih R b c e
  rw [runs_snoc] at e
  have hb : b = a := by
    by_cases q : runs l = []
    · rw [q] at e
      have e : [(a, 1)] = R ++ [((b, c) : Run)] := e
      have := congrArg List.getLast? e
      simp at this
      exact this.1.symm
    · obtain ⟨R', ⟨b', c'⟩, e'⟩ := len_last _ q
      rw [e', runStep_snoc] at e
      by_cases z : b' = a
      · rw [if_pos z] at e
        have := congrArg List.getLast? e
        simp at this
        rw [← this.1]; exact z
      · rw [if_neg z] at e
        have := congrArg List.getLast? e
        simp at this
        exact this.1.symm
  rw [hb]
  simp
theorem runs_prs (L : List (Option Int)) : runs L = prs L L.length (sts L) := by
  refine snoc_ind (P := fun L => runs L = prs L L.length (sts L)) rfl ?_ L
  intro l a ih
  show runs (l ++ [a]) = prs (l ++ [a]) (l ++ [a]).length (sts (l ++ [a]))
  have hlt := sts_lt l
  rw [runs_snoc, sts_snoc, List.length_append, List.length_singleton]
  by_cases q : sts l = []
  · have hr : runs l = [] := by rw [ih, q]; rfl
    have hl : l = [] := by
      cases l with
      | nil => rfl
      | cons x l =>
        have : 0 ∈ sts (x :: l) := List.mem_filter.mpr ⟨List.mem_range.mpr (by simp), rfl⟩
        rw [q] at this
        cases this
    subst hl
    rfl
  · obtain ⟨s, x, e⟩ := len_last _ q
    have hx : x < l.length := hlt x (by rw [e]; simp)
    rw [e, prs_snoc] at ih
    have hb := runs_last l _ _ _ ih
    have hl : l ≠ [] := by rintro rfl; simp at hx
    rw [ih, runStep_snoc, e]
    by_cases z : (l[x]?).join = a
    · have nz : ¬ (l = [] ∨ l.getLast? ≠ some a) := by
        rintro (k | k)
        · exact hl k
        · exact k (by rw [hb, z])
      have e1 : l.length - x + 1 = l.length + 1 - x := by omega
      rw [if_pos z, if_neg nz, List.append_nil, prs_congr l a _ _ (by rw [← e]; exact hlt), prs_snoc, e1]
    · have nz : l = [] ∨ l.getLast? ≠ some a := .inr fun k => z (by rw [hb] at k; injection k)
      rw [if_neg z, if_pos nz, ← prs_snoc, prs_snoc (l ++ [a]), ← e, prs_congr l a _ _ hlt]
      have e2 : l.length + 1 - l.length = 1 := by omega
      rw [List.getElem?_append_right (Nat.le_refl _), Nat.sub_self, e2]
      rfl
theorem prs_map (L : List (Option Int)) (n : Nat) : ∀ s, prs L n s = (List.range s.length).map fun i => ((L[(s ++ [n]).getD i 0]?).join, (s ++ [n]).getD (i + 1) 0 - (s ++ [n]).getD i 0)
  | [] => rfl
  | [x] => rfl
  | x :: y :: r => by
    have h := prs_map L n (y :: r)
    show ((L[x]?).join, y - x) :: prs L n (y :: r) = _
    rw [h, List.length_cons (a := x), List.range_succ_eq_map, List.map_cons, List.map_map]
    rfl
end VL

set_option Elab.async false
set_option linter.all false
set_option maxRecDepth 100000
set_option maxHeartbeats 1000000
namespace VL
open PySem PySem.Spec PyProof.Rows L2
theorem row_len (p : Run) : (row p).length = 32 := by unfold row; rw [List.length_append, bl_len, bl_len]
theorem row_01 (p : Run) : is01 (row p) := is01_app (bl_01 _ _) (bl_01 _ _)
def rowsOf (X : List (Option Int)) : List (List Nat) := (runs X).map row
theorem sts_len (X : List (Option Int)) : (sts X).length = (runs X).length := by rw [runs_prs, prs_map, List.length_map, List.length_range]
theorem runs_chgs (X : List (Option Int)) (h0 : 1 ≤ X.length) (h : X.length ≤ 1000) : ((runs X).length : Int) = 1 + chgs X := by
  obtain ⟨F, e, hF⟩ := runs_ok X h0 h
  have e2 := runsOf_ok X h
  rw [e] at e2
  injection e2 with e2
  injection e2 with e2
  injection e2 with e2
  have := congrArg List.length e2
  rw [List.length_map] at this
  omega
theorem sts_ok (X : List (Option Int)) (hl : X.length ≤ 1000) (ρ : List Dt) (k a b c d : Dt) :
    dComp (iRng (aCons (dCall (one bLen) (aCons (dVar 1) aNil)) aNil) rng1) (setN 6) (pOr (dT (d2 dEq (dVar 6) (dC (.int 0)))) (dT (d2 dNe (d2 dIx (dVar 1) (dVar 6)) (d2 dIx (dVar 1) (d2 dSub (dVar 6) (dC (.int 1))))))) (dVar 6) (k :: LO X :: a :: b :: c :: d :: .non :: ρ) = rok (LN (sts X)) := by
  have q := comp_map (it := iRng (aCons (dCall (one bLen) (aCons (dVar 1) aNil)) aNil) rng1) (set := setN 6) (p := (pOr (dT (d2 dEq (dVar 6) (dC (.int 0)))) (dT (d2 dNe (d2 dIx (dVar 1) (dVar 6)) (d2 dIx (dVar 1) (d2 dSub (dVar 6) (dC (.int 1)))))))) (f := dVar 6) (ρ := (k :: LO X :: a :: b :: c :: d :: .non :: ρ)) (fun i : Nat => Dt.int (0 + (i : Int))) (nw X) (fun n : Nat => Dt.int (n : Int)) (List.range X.length) (by rw [iRng1_to (a := (X.length : Int)) (len_to rfl) (by omega), rng_eq]; rfl) (by rw [List.length_range]; omega) (by
    intro i hi
    have hi := List.mem_range.mp hi
    have e0 : (0 : Int) + (i : Int) = (i : Int) := by omega
    refine ⟨k :: LO X :: a :: b :: c :: d :: .int (i : Int) :: ρ, by rw [e0]; rfl, ?_, fun _ => rfl⟩
    have t1 : dT (d2 dEq (dVar 6) (dC (.int 0))) (k :: LO X :: a :: b :: c :: d :: .int (i : Int) :: ρ) = rok (decide ((i : Int) = 0)) := t_to (Eq.trans (d2_to rfl rfl) (ev_eqI _ _))
    unfold nw
    by_cases z : i = 0
    · rw [decide_eq_true (by omega)] at t1
      rw [decide_eq_true z]
      exact or_t t1
    · rw [decide_eq_false (by omega)] at t1
      rw [decide_eq_false z, Bool.false_or]
      have a1 : d2 dIx (dVar 1) (dVar 6) (k :: LO X :: a :: b :: c :: d :: .int (i : Int) :: ρ) = rok (OI X[i]) := Eq.trans (d2_to rfl rfl) (at_OI X i hi)
      have a2 : d2 dIx (dVar 1) (d2 dSub (dVar 6) (dC (.int 1))) (k :: LO X :: a :: b :: c :: d :: .int (i : Int) :: ρ) = rok (OI (X[i - 1]'(by omega))) := by
        have e : (i : Int) - 1 = ((i - 1 : Nat) : Int) := by omega
        refine Eq.trans (d2_to rfl (Eq.trans (d2_to rfl rfl) (ev_sub _ _))) ?_
        rw [e]
        exact at_OI X (i - 1) (by omega)
      refine Eq.trans (or_f t1) (Eq.trans (t_to (Eq.trans (d2_to a1 a2) (ev_neO _ _))) ?_)
      rw [List.getElem?_eq_getElem hi, List.getElem?_eq_getElem (by omega)]
      by_cases c : X[i] = X[i - 1]'(by omega) <;> simp [c])
  exact q
theorem runs_pos (L : List (Option Int)) : ∀ p ∈ runs L, 1 ≤ p.2 := by
  refine snoc_ind (P := fun L => ∀ p ∈ runs L, 1 ≤ p.2) (fun p h => by simp [runs] at h) ?_ L
  intro l a ih p hp
  rw [runs_snoc] at hp
  by_cases q : runs l = []
  · rw [q] at hp
    have hp : p ∈ [((a, 1) : Run)] := hp
    rw [List.mem_singleton.mp hp]
    exact Nat.le_refl 1
  · obtain ⟨R, ⟨b, c⟩, e⟩ := len_last _ q
    rw [e, runStep_snoc] at hp
    rw [e] at ih
    split at hp
    · rcases List.mem_append.mp hp with hp | hp
      · exact ih p (List.mem_append_left _ hp)
      · rw [List.mem_singleton.mp hp]
        show 1 ≤ c + 1
        omega
    · rcases List.mem_append.mp hp with hp | hp
      · exact ih p hp
      · rw [List.mem_singleton.mp hp]
        exact Nat.le_refl 1
def stx (X : List (Option Int)) : List Nat := sts X ++ [X.length]
def runAt (X : List (Option Int)) (i : Nat) : Run := ((X[(stx X).getD i 0]?).join, (stx X).getD (i + 1) 0 - (stx X).getD i 0)
theorem runs_at (X : List (Option Int)) : runs X = (List.range (runs X).length).map (runAt X) := by
  rw [← sts_len]
  exact (runs_prs X).trans (prs_map X X.length (sts X))
theorem starts_for (X : List (Option Int)) (hl : X.length ≤ 100) (k a hd lw : Dt) (e f g i j m : Dt) : ∃ y z, dFor (iRng (aCons (d2 dSub (dCall (one bLen) (aCons (dVar 4) aNil)) (dC (.int 1))) aNil) rng1) (setN 6) (dSeq (dSet 7 (d2 dSub (d2 dIx (dVar 4) (d2 dAdd (dVar 6) (dC (.int 1)))) (d2 dIx (dVar 4) (dVar 6)))) (dAppend 5 (d2 dAdd (dCall den_law_plain (aCons (d2 dIx (dVar 1) (d2 dIx (dVar 4) (dVar 6))) aNil)) (dCall den_law_bits (aCons (d2 dSub (dVar 7) (dC (.int 1))) (aCons (dC (.int 8)) aNil))))))
    [k, LO X, a, hd, LN (stx X), .lst [lw], .non, .non, e, f, g, i, j, m] = rok (.nx [k, LO X, a, hd, LN (stx X), .lst (lw :: (rowsOf X).map BS), y, z, e, f, g, i, j, m]) := by
  have hrl := runs_len X
  have hsl : (stx X).length = (runs X).length + 1 := by unfold stx; rw [List.length_append, sts_len]; rfl
  have hr : iRng (aCons (d2 dSub (dCall (one bLen) (aCons (dVar 4) aNil)) (dC (.int 1))) aNil) rng1 [k, LO X, a, hd, LN (stx X), .lst [lw], .non, .non, e, f, g, i, j, m] = rok ((List.range (runs X).length).map fun i : Nat => Dt.int (0 + (i : Int))) := by
    have ln : dCall (one bLen) (aCons (dVar 4) aNil) [k, LO X, a, hd, LN (stx X), .lst [lw], .non, .non, e, f, g, i, j, m] = rok (.int (((runs X).length + 1 : Nat) : Int)) := Eq.trans (call_1 rfl) (by rw [ev_one, ev_lenL, List.length_map, hsl])
    rw [iRng1_to (a := ((runs X).length : Int)) (Eq.trans (d2_to ln rfl) (by rw [ev_sub]; congr 3; omega)) (by omega), rng_eq, Int.toNat_natCast]
  obtain ⟨ρ', h1, y, z, q⟩ := forL_inv (set := setN 6) (s := (dSeq (dSet 7 (d2 dSub (d2 dIx (dVar 4) (d2 dAdd (dVar 6) (dC (.int 1)))) (d2 dIx (dVar 4) (dVar 6)))) (dAppend 5 (d2 dAdd (dCall den_law_plain (aCons (d2 dIx (dVar 1) (d2 dIx (dVar 4) (dVar 6))) aNil)) (dCall den_law_bits (aCons (d2 dSub (dVar 7) (dC (.int 1))) (aCons (dC (.int 8)) aNil))))))) (fun i : Nat => Dt.int (0 + (i : Int))) (fun pre ρ => ∃ y z, ρ = [k, LO X, a, hd, LN (stx X), .lst (lw :: (pre.map fun n => row (runAt X n)).map BS), y, z, e, f, g, i, j, m]) (List.range (runs X).length) [] [k, LO X, a, hd, LN (stx X), .lst [lw], .non, .non, e, f, g, i, j, m] ⟨_, _, rfl⟩ (by
    rintro pre n post ρ ee ⟨y, z, rfl⟩
    rw [List.nil_append] at ee
    have hn : n < (runs X).length := List.mem_range.mp (by rw [ee]; simp)
    have hpl : pre.length ≤ 100 := by have := congrArg List.length ee; simp at this; omega
    have hmem : runAt X n ∈ runs X := by rw [runs_at X]; exact List.mem_map_of_mem (List.mem_range.mpr hn)
    have hpos := runs_pos X _ hmem
    have hpos : 1 ≤ (stx X).getD (n + 1) 0 - (stx X).getD n 0 := hpos
    have hst : (stx X).getD n 0 < X.length := by
      have hn' : n < (sts X).length := by rw [sts_len]; exact hn
      have : (stx X).getD n 0 = (sts X)[n] := by
        unfold stx
        simp [List.getD, List.getElem?_append_left hn', hn']
      rw [this]
      exact sts_lt X _ (List.getElem_mem hn')
    have e0 : (0 : Int) + (n : Int) = (n : Int) := by omega
    have e1 : (n : Int) + 1 = ((n + 1 : Nat) : Int) := by omega
    rw [e0]
    refine ⟨[k, LO X, a, hd, LN (stx X), .lst (lw :: (pre.map fun n => row (runAt X n)).map BS), .int (n : Int), z, e, f, g, i, j, m], [k, LO X, a, hd, LN (stx X), .lst (lw :: ((pre ++ [n]).map fun n => row (runAt X n)).map BS), .int (n : Int), .int (((stx X).getD (n + 1) 0 - (stx X).getD n 0 : Nat) : Int), e, f, g, i, j, m], rfl, ?_, _, _, rfl⟩
    have a1 : ∀ z, d2 dIx (dVar 4) (dVar 6) [k, LO X, a, hd, LN (stx X), .lst (lw :: (pre.map fun n => row (runAt X n)).map BS), .int (n : Int), z, e, f, g, i, j, m] = rok (.int (((stx X).getD n 0 : Nat) : Int)) := fun z => Eq.trans (d2_to rfl rfl) (at_N _ n (by omega))
    have a2 : d2 dIx (dVar 4) (d2 dAdd (dVar 6) (dC (.int 1))) [k, LO X, a, hd, LN (stx X), .lst (lw :: (pre.map fun n => row (runAt X n)).map BS), .int (n : Int), z, e, f, g, i, j, m] = rok (.int (((stx X).getD (n + 1) 0 : Nat) : Int)) := by
      refine Eq.trans (d2_to rfl (Eq.trans (d2_to rfl rfl) (ev_add _ _))) ?_
      rw [e1]
      exact at_N _ (n + 1) (by omega)
    have a3 : d2 dSub (d2 dIx (dVar 4) (d2 dAdd (dVar 6) (dC (.int 1)))) (d2 dIx (dVar 4) (dVar 6)) [k, LO X, a, hd, LN (stx X), .lst (lw :: (pre.map fun n => row (runAt X n)).map BS), .int (n : Int), z, e, f, g, i, j, m] = rok (.int (((stx X).getD (n + 1) 0 - (stx X).getD n 0 : Nat) : Int)) := by
      refine Eq.trans (d2_to a2 (a1 z)) ?_
      rw [ev_sub]
      congr 3
      omega
    have a4 : d2 dIx (dVar 1) (d2 dIx (dVar 4) (dVar 6)) [k, LO X, a, hd, LN (stx X), .lst (lw :: (pre.map fun n => row (runAt X n)).map BS), .int (n : Int), .int (((stx X).getD (n + 1) 0 - (stx X).getD n 0 : Nat) : Int), e, f, g, i, j, m] = rok (OI (runAt X n).1) := by
      refine Eq.trans (d2_to rfl (a1 _)) (Eq.trans (at_OI X _ hst) ?_)
      unfold runAt
      rw [List.getElem?_eq_getElem hst]
      rfl
    have a5 := app_to (i := 5) (ρ := [k, LO X, a, hd, LN (stx X), .lst (lw :: (pre.map fun n => row (runAt X n)).map BS), .int (n : Int), .int (((stx X).getD (n + 1) 0 - (stx X).getD n 0 : Nat) : Int), e, f, g, i, j, m]) (Eq.trans (d2_to (Eq.trans (call_1 a4) (plain_ok _)) (Eq.trans (call_2 (Eq.trans (d2_to (f1 := dVar 7) rfl (show dC (.int 1) _ = rok (.int 1) from rfl)) (ev_sub _ _)) (show dC (.int 8) _ = rok (.int ((8 : Nat) : Int)) from rfl)) (law_bits_ok _ 8 (by decide)))) (cat_S _ _ (by rw [bl_len, bl_len]; decide))) rfl (by simp only [List.length_cons, List.length_map]; omega)
    refine Eq.trans (seq_nx (set_to a3)) (Eq.trans a5 ?_)
    rw [List.map_append, List.map_append]
    rfl)
  refine ⟨y, z, Eq.trans (for_to hr) (Eq.trans h1 ?_)⟩
  rw [q, List.nil_append]
  have : (List.range (runs X).length).map (fun n => row (runAt X n)) = rowsOf X := by
    unfold rowsOf
    conv => rhs; rw [runs_at X]
    rw [List.map_map]
    rfl
  rw [this]
theorem pack1 (X : List (Option Int)) (h : Okl X) : Pk "runs" X (19 + 32 * (1 + chgs X)) := by
  have hx := h.2.1
  have hl : X.length ≤ 1000 := by omega
  have hk : ("runs" : Str) ∈ kinds := by decide +kernel
  have hroom := (room1 X h).2
  have hrc := runs_chgs X h.1 hl
  have hrl := runs_len X
  have hys : ∀ y ∈ rowsOf X, y.length = 32 := fun y hy => by obtain ⟨p, _, rfl⟩ := List.mem_map.mp hy; exact row_len p
  have hyl : (rowsOf X).length = (runs X).length := List.length_map ..
  have fl := flat_len (rowsOf X) 32 hys
  let lw := bl 8 (((runs X).length : Int) - 1)
  have hlw : lw.length = 8 := bl_len _ _
  refine ⟨Hd "runs" X ++ lw ++ (rowsOf X).flatten, ?_, ?_, ?_, ?_, .runs X⟩
  · have ec : ((runs X).filter fun _ => true).map (fun p => BS (row p)) = (rowsOf X).map BS := by unfold rowsOf; rw [filterT, List.map_map]; rfl
    have c1 : dComp (iLst (dVar 3)) (setT2 9 6) pYes (d2 dAdd (dCall den_bits_of (aCons (dCall den_code (aCons (dVar 9) aNil)) (aCons (dC (.int 24)) aNil))) (dCall den_bits_of (aCons (d2 dSub (dVar 6) (dC (.int 1))) (aCons (dC (.int 8)) aNil)))) [.str "runs", LO X, BS (Hd "runs" X), .lst ((runs X).map runT), .non, .non, .non, .non, .non, .non, .non] = rok (.lst ((rowsOf X).map BS)) := by
      rw [← ec]
      exact comp_map runT (fun _ => true) _ (runs X) (lst_to rfl) (by omega) fun p hp => ⟨[.str "runs", LO X, BS (Hd "runs" X), .lst ((runs X).map runT), .non, .non, .int (p.2 : Int), .non, .non, OI p.1, .non], rfl, rfl, fun _ => Eq.trans (d2_to (plainP_ok rfl) (Eq.trans (call_2 (Eq.trans (d2_to rfl rfl) (ev_sub _ _)) rfl) (bits_ok _ 8 (by decide)))) (cat_S _ _ (by rw [bl_len, bl_len]; decide))⟩
    have hj : mJoin "" (.lst ((rowsOf X).map BS)) = rok (BS (rowsOf X).flatten) := join_to _ (fun y hy => by rw [hys y hy]; decide) (by omega)
    have ln : dCall (one bLen) (aCons (dVar 3) aNil) [.str "runs", LO X, BS (Hd "runs" X), .lst ((runs X).map runT), .lst ((rowsOf X).map BS), .non, .non, .non, .non, .non, .non] = rok (.int ((runs X).length : Int)) := Eq.trans (call_1 rfl) (by rw [ev_one, ev_lenL, List.length_map])
    exact fn_rt (Eq.trans (skip (room_is hroom)) (Eq.trans (seq_nx (set_to (head_ok _ hk X _))) (Eq.trans (skip (kn (by decide +kernel))) (take_ (ky (by decide +kernel)) (Eq.trans (seq_nx (set_to (Eq.trans (call_1 rfl) (runsOf_ok X hl)))) (Eq.trans (seq_nx (set_to c1)) (ret_to (Eq.trans (d2_to (Eq.trans (d2_to rfl (Eq.trans (call_2 (Eq.trans (d2_to ln rfl) (ev_sub _ _)) rfl) (bits_ok _ 8 (by decide)))) (cat_S _ _ (by rw [Hd_len, bl_len]; decide))) (Eq.trans (m_to rfl rfl) hj)) (cat_S _ _ (by rw [List.length_append, Hd_len, bl_len, fl]; omega))) rfl)))))))
  · have hst : LN (stx X) = .lst ((sts X).map (fun n : Nat => Dt.int (n : Int)) ++ [.int (X.length : Int)]) := by
      show Dt.lst ((stx X).map _) = _
      unfold stx
      rw [List.map_append]
      rfl
    have hsl : (stx X).length = (runs X).length + 1 := by unfold stx; rw [List.length_append, sts_len]; rfl
    obtain ⟨y, z, ef⟩ := starts_for X hx (.str "runs") (.int (kx "runs" : Nat)) (BS (Hd "runs" X)) (BS lw) .non .non .non .non .non .non
    have ap := app_to (i := 4) (ρ := [.str "runs", LO X, .int (kx "runs" : Nat), BS (Hd "runs" X), LN (sts X), .non, .non, .non, .non, .non, .non, .non, .non, .non]) (len_to (L := X) (f := dVar 1) rfl) rfl (by rw [List.length_map, sts_len]; omega)
    have ap2 : dAppend 4 (dCall (one bLen) (aCons (dVar 1) aNil)) [.str "runs", LO X, .int (kx "runs" : Nat), BS (Hd "runs" X), LN (sts X), .non, .non, .non, .non, .non, .non, .non, .non, .non] = rok (.nx [.str "runs", LO X, .int (kx "runs" : Nat), BS (Hd "runs" X), LN (stx X), .non, .non, .non, .non, .non, .non, .non, .non, .non]) := by
      rw [hst]; exact ap
    have ln : dCall (one bLen) (aCons (dVar 4) aNil) [.str "runs", LO X, .int (kx "runs" : Nat), BS (Hd "runs" X), LN (stx X), .non, .non, .non, .non, .non, .non, .non, .non, .non] = rok (.int (((runs X).length + 1 : Nat) : Int)) := Eq.trans (call_1 rfl) (by rw [ev_one, ev_lenL, List.length_map, hsl])
    have e2 : d2 dSub (dCall (one bLen) (aCons (dVar 4) aNil)) (dC (.int 2)) [.str "runs", LO X, .int (kx "runs" : Nat), BS (Hd "runs" X), LN (stx X), .non, .non, .non, .non, .non, .non, .non, .non, .non] = rok (.int (((runs X).length : Int) - 1)) := by
      refine Eq.trans (d2_to ln rfl) ?_
      have e9 : (((runs X).length + 1 : Nat) : Int) - 2 = ((runs X).length : Int) - 1 := by omega
      rw [ev_sub, e9]
    have hj : mJoin "" (.lst (BS lw :: (rowsOf X).map BS)) = rok (BS (lw ++ (rowsOf X).flatten)) := by
      have := join_to (lw :: rowsOf X) (fun y hy => by
        rcases List.mem_cons.mp hy with rfl | hy
        · rw [hlw]; decide
        · rw [hys y hy]; decide) (by rw [List.length_cons]; omega)
      rw [List.map_cons, List.flatten_cons] at this
      exact this
    have cat : dAdd (BS (Hd "runs" X)) (BS (lw ++ (rowsOf X).flatten)) = rok (BS (Hd "runs" X ++ lw ++ (rowsOf X).flatten)) := by
      rw [List.append_assoc]
      exact cat_S _ _ (by rw [List.length_append, Hd_len, hlw, fl]; omega)
    exact fn_rt (Eq.trans (seq_nx (set_to (lawk_ok _ hk _))) (Eq.trans (seq_nx (set_to (lawhead_ok _ X _))) (Eq.trans (skip (kn (by decide +kernel))) (take_ (ky (by decide +kernel)) (Eq.trans (seq_nx (set_to (sts_ok X hl _ _ _ _ _ _))) (Eq.trans (seq_nx ap2) (Eq.trans (seq_nx (set_to (lst1_to (Eq.trans (call_2 e2 rfl) (law_bits_ok _ 8 (by decide)))))) (Eq.trans (seq_nx ef) (ret_to (Eq.trans (d2_to rfl (Eq.trans (m_to rfl rfl) hj)) cat) rfl)))))))))
  · rw [List.length_append, List.length_append, Hd_len, hlw, fl]
    omega
  · exact is01_app (is01_app (Hd_01 _ _) (bl_01 _ _)) (is01_flat fun y hy => by obtain ⟨p, _, rfl⟩ := List.mem_map.mp hy; exact row_01 p)

end VL

set_option Elab.async false
set_option linter.all false
set_option maxRecDepth 100000
set_option maxHeartbeats 1000000
namespace VL
open PySem PySem.Spec PyProof.Rows L2
theorem room4n (L : List (Option Int)) (h : Okl L) (c : none ∈ L) : den_room [.str "steps", LO L] = rok .non :=
  fn_rt (Eq.trans (seq_nx (drop_to (Eq.trans (call_1 rfl) (look_ok L h)))) (Eq.trans (seq_nx (set_to (len_to rfl))) (Eq.trans (skip (kn (by decide +kernel))) (Eq.trans (skip (kn (by decide +kernel))) (Eq.trans (skip (kn (by decide +kernel))) (Eq.trans (skip (kn (by decide +kernel))) (Eq.trans (skip (ky' (by decide +kernel))) (Eq.trans (seq_nx (set_to (Eq.trans (call_1 rfl) (step_codes_none L c)))) (ret_to (Eq.trans (if_f rfl) rfl) rfl)))))))))
theorem int_inj {a b : Int} {x : R Dt} (h1 : x = rok (.int a)) (h2 : x = rok (.int b)) : a = b := by
  rw [h1] at h2
  injection h2 with h2
  injection h2 with h2
  injection h2
/-- whatever kind has room m packs in m bits -/
theorem pack_all (X : List (Option Int)) (h : Okl X) (hs : X.length ≤ 64) (k : Str) (hk : k ∈ kinds) (m : Int) (hm : den_room [.str k, LO X] = rok (.int m)) : Pk k X m := by
  simp only [kinds, List.mem_cons, List.not_mem_nil, or_false] at hk
  rcases hk with rfl | rfl | rfl | rfl | rfl
  · rw [int_inj hm (room0 X h).2]; exact pack0 X h
  · rw [int_inj hm (room1 X h).2]; exact pack1 X h
  · have hb := bk_len X
    have hp := bk_pos X h.1
    obtain ⟨w, hw, ew⟩ := den_width_ok ((bk X).length - 1) (by omega)
    obtain ⟨w, rfl⟩ := Int.eq_ofNat_of_zero_le hw.1
    rw [int_inj hm (room2x X h w hw ew (by omega)).2]
    exact pack2 X h w (by omega) ew (by omega)
  · exact pack3 X h m hm
  · by_cases c : none ∈ X
    · rw [room4n X h c] at hm
      injection hm with hm
      injection hm with hm
      cases hm
    · obtain ⟨M, rfl⟩ := no_none X c
      exact pack4 M h m hm
theorem bLen_S (l : List Nat) (h : l.length ≤ 16777216) : one bLen [BS l] = rok (.int (l.length : Int)) := by
  show (if (SX.S l).length ≤ 16777216 then rok (Dt.int ((SX.S l).length : Int)) else none) = _
  rw [SX.S_len, if_pos h]
open Classical in
noncomputable def bitsOf (X : List (Option Int)) : List Nat := if h : ∃ l : List Nat, den_packed [.str (kd X), LO X] = rok (BS l) ∧ den_law_packed [.str (kd X), LO X] = rok (BS l) ∧ (l.length : Int) = lr X ∧ is01 l ∧ Lay (kd X) X l then h.choose else []
theorem bits_part (X : List (Option Int)) (h : Okl X) (hs : X.length ≤ 64) (p : Part X (lr X) (kd X)) : den_packed [.str (kd X), LO X] = rok (BS (bitsOf X)) ∧ den_law_packed [.str (kd X), LO X] = rok (BS (bitsOf X)) ∧ ((bitsOf X).length : Int) = lr X ∧ is01 (bitsOf X) ∧ Lay (kd X) X (bitsOf X) := by
  have h : ∃ l : List Nat, den_packed [.str (kd X), LO X] = rok (BS l) ∧ den_law_packed [.str (kd X), LO X] = rok (BS l) ∧ (l.length : Int) = lr X ∧ is01 l ∧ Lay (kd X) X l := pack_all X h hs (kd X) p.kd (lr X) p.rm
  unfold bitsOf
  rw [dif_pos h]
  exact h.choose_spec
noncomputable def blkT (X : List (Option Int)) : Dt := .tup [.str (kd X), LO X]
abbrev bBody : List Dt → R Fl := dSeq (dSet 4 (dSl sliceL (dVar 0) (oSome (dVar 2)) (oSome (dVar 3)))) (dSeq (dAppend 1 (dTup (aCons (dCall den_best_kind (aCons (dVar 4) aNil)) (aCons (dVar 4) aNil)))) (dSet 2 (dVar 3)))
theorem blocks_for (V : List (Option Int)) (hV : ∀ o ∈ V, okV o) (hn : V.length ≤ 64) : ∀ (E : List Nat) (b : Nat) (acc : List Dt) (x y : Dt), ok V b E → acc.length + E.length ≤ 1000 →
    ∃ z x' y', dForL (setN 3) bBody (E.map fun n : Nat => Dt.int (n : Int)) [LO V, .lst acc, .int (b : Int), x, y] = rok (.nx [LO V, .lst (acc ++ (segs V b E).map blkT), z, x', y'])
  | [], b, acc, x, y, _, _ => ⟨.int (b : Int), x, y, by simp only [segs, List.map_nil, List.append_nil]; rfl⟩
  | e :: E, b, acc, x, y, ⟨h1, h2, h3⟩, hl => by
    rw [List.length_cons] at hl
    have p := cut_part V hV hn b e h1 h2
    have s : bBody [LO V, .lst acc, .int (b : Int), .int (e : Int), y] = rok (.nx [LO V, .lst (acc ++ [blkT (cut V b e)]), .int (e : Int), .int (e : Int), LO (cut V b e)]) :=
      Eq.trans (seq_nx (set_to (slice_to rfl rfl rfl (by omega) h2))) (Eq.trans (seq_nx (app_to (tup2_to (Eq.trans (call_1 rfl) p.bk) rfl) rfl (by omega))) (set_to rfl))
    obtain ⟨z, x', y', ih⟩ := blocks_for V hV hn E e (acc ++ [blkT (cut V b e)]) (.int (e : Int)) (LO (cut V b e)) h3 (by rw [List.length_append, List.length_cons, List.length_nil]; omega)
    refine ⟨z, x', y', ?_⟩
    rw [List.map_cons, dForL]
    show rbind (bBody [LO V, .lst acc, .int (b : Int), .int (e : Int), y]) _ = _
    rw [s, rbind_ok]
    refine Eq.trans ih ?_
    rw [segs, List.map_cons, List.append_assoc]
    rfl
theorem blocks_ok (V : List (Option Int)) (hV : ∀ o ∈ V, okV o) (hn : V.length ≤ 64) : den_blocks [LO V] = rok (.lst ((segs V 0 (ends V)).map blkT)) := by
  have ho := (ends_ok V hn).1
  have hl := okc_len V (ends V) 0 ho (Nat.zero_le _)
  obtain ⟨z, x', y', e⟩ := blocks_for V hV hn (ends V) 0 [] .non .non ho (by rw [List.length_nil]; omega)
  exact fn_rt (Eq.trans (seq_nx (set_to rfl)) (Eq.trans (seq_nx (set_to rfl)) (Eq.trans (seq_nx (Eq.trans (for_to (lst_to (Eq.trans (call_1 rfl) (cuts_ok V hV hn)))) e)) (ret_to rfl rfl))))
noncomputable def tightOf (V : List (Option Int)) : List Nat := ((segs V 0 (ends V)).map bitsOf).flatten
theorem tight_ok (V : List (Option Int)) (hV : ∀ o ∈ V, okV o) (hn : V.length ≤ 64) : den_tight [LO V] = rok (BS (tightOf V)) := by
  have ho := (ends_ok V hn).1
  have hl := okc_len V (ends V) 0 ho (Nat.zero_le _)
  have hsl := segs_len V (ends V) 0
  have sp := seg_part V hV hn (ends V) 0 ho
  have c := comp_map (it := iLst (dCall den_blocks (aCons (dVar 0) aNil))) (set := setT2 1 2) (p := pYes) (f := dCall den_packed (aCons (dVar 1) (aCons (dVar 2) aNil))) (ρ := [LO V, .non, .non]) blkT (fun _ => true) (fun X => BS (bitsOf X)) (segs V 0 (ends V)) (lst_to (Eq.trans (call_1 rfl) (blocks_ok V hV hn))) (by omega) (by
    intro X hX
    exact ⟨[LO V, .str (kd X), LO X], rfl, rfl, fun _ => Eq.trans (call_2 rfl rfl) (bits_part X (sp X hX).1 (sp X hX).2.1 (sp X hX).2.2).1⟩)
  rw [filterT] at c
  have j := join_to ((segs V 0 (ends V)).map bitsOf) (by
    intro y hy
    obtain ⟨X, hX, rfl⟩ := List.mem_map.mp hy
    obtain ⟨h0, h1, p⟩ := sp X hX
    have := (bits_part X h0 h1 p).2.2.1
    have := p.hi
    omega) (by rw [List.length_map]; omega)
  rw [List.map_map] at j
  exact fn_rt (ret_to (Eq.trans (m_to rfl c) j) rfl)
theorem tight_len (V : List (Option Int)) (hV : ∀ o ∈ V, okV o) (hn : V.length ≤ 64) : ((tightOf V).length : Int) = (PS V).getD V.length 0 := by
  rw [← (ends_ok V hn).2.1]
  unfold tightOf
  have sp := seg_part V hV hn (ends V) 0 (ends_ok V hn).1
  generalize segs V 0 (ends V) = L at sp ⊢
  induction L with
  | nil => rfl
  | cons X L ih =>
    rw [List.map_cons, List.flatten_cons, List.length_append, List.map_cons, List.sum_cons, ← ih fun p hp => sp p (List.mem_cons_of_mem _ hp)]
    have q := sp X List.mem_cons_self
    have := (bits_part X q.1 q.2.1 q.2.2).2.2.1
    omega
theorem tight_01 (V : List (Option Int)) (hV : ∀ o ∈ V, okV o) (hn : V.length ≤ 64) : is01 (tightOf V) := is01_flat fun y hy => by
  obtain ⟨X, hX, rfl⟩ := List.mem_map.mp hy
  have q := seg_part V hV hn (ends V) 0 (ends_ok V hn).1 X hX
  exact (bits_part X q.1 q.2.1 q.2.2).2.2.2.1

end VL

set_option Elab.async false
set_option linter.all false
set_option maxRecDepth 100000
set_option maxHeartbeats 1000000
namespace VL
open PySem PySem.Spec PyProof.Rows L2
/-! ### blocks as objects -/
theorem attr_to {i c k : Nat} {f : List Dt → R Dt} {ρ l : List Dt} {d : Dt} (h : f ρ = rok d) (hρ : ρ[i]? = some (.obj c l)) (hk : k ≤ l.length) : dAttr i c k f ρ = rok (.nx (ρ.set i (.obj c (if k < l.length then l.set k d else l ++ [d])))) := by
  unfold dAttr
  rw [h, rbind_ok, hρ]
  show rbind (setA c k d (.obj c l)) _ = _
  have : setA c k d (.obj c l) = rok (.obj c (if k < l.length then l.set k d else l ++ [d])) := if_pos ⟨rfl, hk⟩
  rw [this, rbind_ok]
theorem attr_new {i c k : Nat} {f : List Dt → R Dt} {ρ l : List Dt} {d : Dt} (h : f ρ = rok d) (hρ : ρ[i]? = some (.obj c l)) (hk : l.length = k) : dAttr i c k f ρ = rok (.nx (ρ.set i (.obj c (l ++ [d])))) := by
  rw [attr_to h hρ (by omega), if_neg (by omega)]
theorem attr_set {i c k : Nat} (n : Nat) {f : List Dt → R Dt} {ρ l : List Dt} {d : Dt} (h : f ρ = rok d) (hρ : ρ[i]? = some (.obj c l)) (hk : l.length = n) (hlt : k < n) : dAttr i c k f ρ = rok (.nx (ρ.set i (.obj c (l.set k d)))) := by
  rw [attr_to h hρ (by omega), if_pos (by omega)]
theorem fnM_nx {m : Nat} {s : List Dt → R Fl} {ds ρ : List Dt} {d0 : Dt} (h : s (ds ++ List.replicate m .non) = rok (.nx ρ)) (h0 : ρ[0]? = some d0) : dFnM m s ds = rok (.tup [.non, d0]) := by
  unfold dFnM
  rw [h, rbind_ok]
  simp only [h0]
theorem new_to {c nf : Nat} {h : List Dt → R Dt} {fs : List Dt → R (List Dt)} {ρ ds l : List Dt} (h1 : fs ρ = rok ds) (h2 : h (.obj c [] :: ds) = rok (.tup [.non, .obj c l])) (hl : l.length = nf) : dNew c nf h fs ρ = rok (.obj c l) := by
  unfold dNew
  rw [h1, rbind_ok, h2, rbind_ok]
  exact if_pos ⟨rfl, hl⟩
def disp (f0 f1 f2 : List Dt → R Dt) : Dt → List Dt → R Dt
  | .obj c l, ds => if c = 0 then f0 (.obj c l :: ds) else if c = 1 then f1 (.obj c l :: ds) else if c = 2 then f2 (.obj c l :: ds) else none
  | _, _ => none
theorem meth_to {c : Nat} {h f : List Dt → R Dt} {fs : List Dt → R (List Dt)} {ρ l ds : List Dt} (h1 : f ρ = rok (.obj c l)) (h2 : fs ρ = rok ds) : dMeth c h f fs ρ = h (.obj c l :: ds) := by
  unfold dMeth
  rw [h1, rbind_ok]
  show (if c = c then rbind (fs ρ) fun ds => h (.obj c l :: ds) else none) = _
  rw [if_pos rfl, h2, rbind_ok]
theorem alt_meth {i : Nat} {f0 f1 f2 : List Dt → R Dt} {fs : List Dt → R (List Dt)} {ρ ds : List Dt} {b : Dt} (h : ρ[i]? = some b) (h2 : fs ρ = rok ds) : dAlt i 0 (dMeth 0 f0 (dVar i) fs) (dAlt i 1 (dMeth 1 f1 (dVar i) fs) (dMeth 2 f2 (dVar i) fs)) ρ = disp f0 f1 f2 b ds := by
  have hv : dVar i ρ = rok b := by unfold dVar; rw [h]; rfl
  unfold dAlt
  rw [h]
  cases b <;> first | rfl | skip
  rename_i c l
  simp only [disp, h]
  by_cases c0 : c = 0
  · subst c0; rw [if_pos rfl, if_pos rfl]; exact meth_to hv h2
  · rw [if_neg c0, if_neg c0]
    by_cases c1 : c = 1
    · subst c1; rw [if_pos rfl, if_pos rfl]; exact meth_to hv h2
    · rw [if_neg c1, if_neg c1]
      by_cases c2 : c = 2
      · subst c2; rw [if_pos rfl]; exact meth_to hv h2
      · rw [if_neg c2]
        unfold dMeth
        rw [hv, rbind_ok]
        exact if_neg c2
theorem alt_attr {i k : Nat} {ρ l : List Dt} {c : Nat} {d : Dt} (h : ρ[i]? = some (.obj c l)) (hc : c ≤ 2) (hk : l[k]? = some d) : dAlt i 0 (d1 (gAttr 0 k) (dVar i)) (dAlt i 1 (d1 (gAttr 1 k) (dVar i)) (d1 (gAttr 2 k) (dVar i))) ρ = rok d := by
  have hv : dVar i ρ = rok (.obj c l) := by unfold dVar; rw [h]; rfl
  have g : ∀ c', c' = c → d1 (gAttr c' k) (dVar i) ρ = rok d := fun c' e => by
    subst e
    refine Eq.trans (d1_to hv) ?_
    show (if c' = c' then (l[k]?).map Except.ok else none) = _
    rw [if_pos rfl, hk]; rfl
  unfold dAlt
  simp only [h]
  by_cases c0 : c = 0
  · rw [if_pos c0]; exact g 0 c0.symm
  · rw [if_neg c0]
    by_cases c1 : c = 1
    · rw [if_pos c1]; exact g 1 c1.symm
    · rw [if_neg c1]; exact g 2 (by omega)
def numsI (X : List (Option Int)) : List Int := nums X
def fstO (X : List (Option Int)) : Option Int := (X[0]?).join
def bPlain (X : List (Option Int)) : Dt := .obj 0 [.str "plain", .int X.length, OI (fstO X), LO X]
def bBase (X : List (Option Int)) : Dt := .obj 0 [.str "base", .int X.length, .int (baseOf X), LI (aboves X)]
def bSteps (X : List (Option Int)) : Dt := .obj 0 [.str "steps", .int X.length, OI (fstO X), LI (stepsOf (nums X))]
def bRuns (X : List (Option Int)) : Dt := .obj 1 [.str "runs", .int X.length, .lst ((runs X).map runT)]
def ixs (X : List (Option Int)) : List Nat := X.map fun o => (bk X).findIdx fun z => decide (z = o)
def bBook (X : List (Option Int)) : Dt := .obj 2 [.str "book", .int X.length, LO (bk X), LN (ixs X)]
theorem fst_to (X : List (Option Int)) (h : 1 ≤ X.length) : dIx (LO X) (.int 0) = rok (OI (fstO X)) := by
  have := at_OI X 0 (by omega)
  refine Eq.trans this ?_
  unfold fstO
  rw [List.getElem?_eq_getElem (by omega)]
  rfl
theorem ky2 {a b : Str} {c : Dt} {ρ : List Dt} (h : (PyData.strOk a && PyData.strOk b && (a == b)) = true) : dT (d2 dEq (dVar 1) (dC (.str b))) (c :: .str a :: ρ) = rok true := by
  simp only [Bool.and_eq_true] at h
  refine t_to (Eq.trans (d2_to rfl rfl) ?_)
  rw [ev_eqS _ _ h.1.1 h.1.2, h.2]
theorem kn2 {a b : Str} {c : Dt} {ρ : List Dt} (h : (PyData.strOk a && PyData.strOk b && !(a == b)) = true) : dT (d2 dEq (dVar 1) (dC (.str b))) (c :: .str a :: ρ) = rok false := by
  simp only [Bool.and_eq_true, Bool.not_eq_true'] at h
  refine t_to (Eq.trans (d2_to rfl rfl) ?_)
  rw [ev_eqS _ _ h.1.1 h.1.2, h.2]
theorem new_plain (X : List (Option Int)) (h : 1 ≤ X.length) : den_Plain_init [.obj 0 [], .str "plain", LO X] = rok (.tup [.non, bPlain X]) :=
  fnM_nx (Eq.trans (seq_nx (attr_new rfl rfl rfl)) (Eq.trans (seq_nx (attr_new (len_to rfl) rfl rfl)) (Eq.trans (seq_nx (attr_new (Eq.trans (if_f (kn2 (by decide +kernel))) (Eq.trans (d2_to rfl rfl) (fst_to X h))) rfl rfl)) (Eq.trans (seq_nx (attr_new (Eq.trans (call_1 rfl) rfl) rfl rfl)) (Eq.trans (ifS_f (kn2 (by decide +kernel))) (Eq.trans (ifS_f (kn2 (by decide +kernel))) rfl)))))) rfl
theorem new_base (X : List (Option Int)) (h : 1 ≤ X.length) (h2 : X.length ≤ 1000) : den_Plain_init [.obj 0 [], .str "base", LO X] = rok (.tup [.non, bBase X]) :=
  fnM_nx (Eq.trans (seq_nx (attr_new rfl rfl rfl)) (Eq.trans (seq_nx (attr_new (len_to rfl) rfl rfl)) (Eq.trans (seq_nx (attr_new (Eq.trans (if_t (ky2 (by decide +kernel))) (Eq.trans (call_1 rfl) (base_ok X h2))) rfl rfl)) (Eq.trans (seq_nx (attr_new (Eq.trans (call_1 rfl) rfl) rfl rfl)) (Eq.trans (ifS_t (ky2 (by decide +kernel))) (attr_set 4 (Eq.trans (call_1 rfl) (codes_ok X h2)) rfl rfl (by decide))))))) rfl
theorem nums_some (M : List Int) : nums (M.map some) = M := by
  unfold nums
  rw [List.filterMap_map]
  show M.filterMap (fun x => some x) = M
  rw [List.filterMap_some]
theorem new_steps (X : List (Option Int)) (h : 1 ≤ X.length) (h2 : X.length ≤ 1000) (hn : none ∉ X) : den_Plain_init [.obj 0 [], .str "steps", LO X] = rok (.tup [.non, bSteps X]) := by
  have e : den_step_codes [LO X] = rok (LI (stepsOf (nums X))) := by
    obtain ⟨M, rfl⟩ := no_none X hn
    rw [nums_some]
    have := step_codes_ok M (by rw [List.length_map] at h2; exact h2)
    rw [mapI] at this
    exact this
  exact fnM_nx (Eq.trans (seq_nx (attr_new rfl rfl rfl)) (Eq.trans (seq_nx (attr_new (len_to rfl) rfl rfl)) (Eq.trans (seq_nx (attr_new (Eq.trans (if_f (kn2 (by decide +kernel))) (Eq.trans (d2_to rfl rfl) (fst_to X h))) rfl rfl)) (Eq.trans (seq_nx (attr_new (Eq.trans (call_1 rfl) rfl) rfl rfl)) (Eq.trans (ifS_f (kn2 (by decide +kernel))) (Eq.trans (ifS_t (ky2 (by decide +kernel))) (attr_set 4 (Eq.trans (call_1 rfl) e) rfl rfl (by decide)))))))) rfl
theorem new_runs (X : List (Option Int)) (h2 : X.length ≤ 1000) : den_Runs_init [.obj 1 [], .str "runs", LO X] = rok (.tup [.non, bRuns X]) :=
  fnM_nx (Eq.trans (seq_nx (attr_new rfl rfl rfl)) (Eq.trans (seq_nx (attr_new (len_to rfl) rfl rfl)) (attr_new (Eq.trans (call_1 rfl) (runsOf_ok X h2)) rfl rfl))) rfl
theorem ml_ix {f1 f2 : List Dt → R Dt} {ρ : List Dt} {W : List (Option Int)} {o : Option Int} (h1 : f1 ρ = rok (LO W)) (h2 : f2 ρ = rok (OI o)) (h : o ∈ W) : dML mIndex f1 f2 ρ = rok (.int (W.findIdx (fun z => decide (z = o)) : Nat)) := Eq.trans (ml_to h1 h2) (idx_ok W o h).1
theorem new_book (X : List (Option Int)) (h2 : X.length ≤ 1000) : den_Book_init [.obj 2 [], .str "book", LO X] = rok (.tup [.non, bBook X]) := by
  have c := comp_map (it := iLst (dVar 2)) (set := setN 3) (p := pYes) (f := dML mIndex (d1 (gAttr 2 2) (dVar 0)) (dVar 3)) (ρ := [.obj 2 [.str "book", .int X.length, LO (bk X)], .str "book", LO X, .non]) OI (fun _ => true) (fun o => Dt.int ((bk X).findIdx (fun z => decide (z = o)) : Nat)) X (lst_to rfl) (by omega) (fun o ho => ⟨[.obj 2 [.str "book", .int X.length, LO (bk X)], .str "book", LO X, OI o], rfl, rfl, fun _ => ml_ix rfl rfl ((bk_mem X o).mpr ho)⟩)
  rw [filterT] at c
  have e : X.map (fun o => Dt.int ((bk X).findIdx (fun z => decide (z = o)) : Nat)) = (ixs X).map fun n : Nat => Dt.int (n : Int) := by unfold ixs; rw [List.map_map]; rfl
  rw [e] at c
  exact fnM_nx (Eq.trans (seq_nx (attr_new rfl rfl rfl)) (Eq.trans (seq_nx (attr_new (len_to rfl) rfl rfl)) (Eq.trans (seq_nx (attr_new (Eq.trans (call_1 rfl) (book_ok X h2)) rfl rfl)) (attr_new c rfl rfl)))) rfl
/-! ### the values of a block -/
theorem eqs_y {f : List Dt → R Dt} {ρ : List Dt} {a b : Str} (h1 : f ρ = rok (.str a)) (h : (PyData.strOk a && PyData.strOk b && (a == b)) = true) : dT (d2 dEq f (dC (.str b))) ρ = rok true := by
  simp only [Bool.and_eq_true] at h
  refine t_to (Eq.trans (d2_to h1 rfl) ?_)
  rw [ev_eqS _ _ h.1.1 h.1.2, h.2]
theorem eqs_n {f : List Dt → R Dt} {ρ : List Dt} {a b : Str} (h1 : f ρ = rok (.str a)) (h : (PyData.strOk a && PyData.strOk b && !(a == b)) = true) : dT (d2 dEq f (dC (.str b))) ρ = rok false := by
  simp only [Bool.and_eq_true, Bool.not_eq_true'] at h
  refine t_to (Eq.trans (d2_to h1 rfl) ?_)
  rw [ev_eqS _ _ h.1.1 h.1.2, h.2]
theorem vals_plain (X : List (Option Int)) : den_Plain_values_of [bPlain X] = rok (LO X) :=
  fn_rt (take_ (eqs_y (a := "plain") rfl (by decide +kernel)) (ret_to (Eq.trans (call_1 rfl) rfl) (flat_OI X)))
theorem vals_base (X : List (Option Int)) (h2 : X.length ≤ 1000) : den_Plain_values_of [bBase X] = rok (LO X) := by
  have c := comp_map (it := iLst (d1 (gAttr 0 3) (dVar 0))) (set := setN 2) (p := pYes) (f := dIf (dT (d2 dEq (dVar 2) (dC (.int 0)))) (dC .non) (d2 dSub (d2 dAdd (d1 (gAttr 0 2) (dVar 0)) (dVar 2)) (dC (.int 1)))) (ρ := [bBase X, .non, .non]) (fun o : Option Int => Dt.int (match o with | none => 0 | some v => v - baseOf X + 1)) (fun _ => true) OI X (by
    refine lst_to (Eq.trans (d1_to rfl) ?_)
    show rok (LI (aboves X)) = rok (Dt.lst (X.map _))
    unfold aboves
    rw [LI, List.map_map]
    rfl) (by omega) (by
    intro o ho
    refine ⟨_, rfl, rfl, fun _ => ?_⟩
    cases o with
    | none => exact Eq.trans (if_t (t_to (Eq.trans (d2_to rfl rfl) (ev_eqI _ _)))) rfl
    | some v =>
      have hm : v ∈ nums X := (nums_mem X v).mpr ho
      have hb : baseOf X ≤ v := by
        unfold baseOf
        rw [if_neg (by cases q : nums X <;> simp [q] at hm ⊢)]
        exact (min_mem (nums X) (by intro e; rw [e] at hm; simp at hm)).2 v hm
      refine Eq.trans (if_f (t_to (Eq.trans (d2_to rfl rfl) (Eq.trans (ev_eqI _ _) ?_)))) ?_
      · have e1 : decide ((v - baseOf X + 1 : Int) = 0) = false := decide_eq_false (by omega)
        exact congrArg (fun b => rok (Dt.bl b)) e1
      · refine Eq.trans (d2_to (Eq.trans (d2_to (a := .int (baseOf X)) rfl rfl) (ev_add _ _)) rfl) ?_
        have e2 : baseOf X + (v - baseOf X + 1) - 1 = v := by omega
        exact congrArg (fun i => rok (Dt.int i)) e2)
  rw [filterT] at c
  exact fn_rt (Eq.trans (skip (eqs_n (a := "base") rfl (by decide +kernel))) (take_ (eqs_y (a := "base") rfl (by decide +kernel)) (ret_to c (flat_OI X))))
theorem vals_runs_flat : ∀ X : List (Option Int), ((runs X).map fun p => List.replicate p.2 p.1).flatten = X := by
  intro X
  refine snoc_ind (P := fun X => ((runs X).map fun p => List.replicate p.2 p.1).flatten = X) rfl ?_ X
  intro l a ih
  show ((runs (l ++ [a])).map _).flatten = l ++ [a]
  rw [runs_snoc]
  by_cases q : runs l = []
  · rw [q] at ih ⊢
    have : l = [] := by simpa using ih.symm
    subst this
    rfl
  · obtain ⟨R, ⟨b, c⟩, e⟩ := len_last _ q
    rw [e] at ih ⊢
    rw [runStep_snoc]
    by_cases z : b = a
    · subst z
      rw [if_pos rfl]
      rw [List.map_append, List.flatten_append] at ih ⊢
      rw [← ih]
      simp [List.replicate_succ']
    · rw [if_neg z, List.map_append, List.flatten_append, ih]
      rfl
theorem le_sum {x : Nat} : ∀ {l : List Nat}, x ∈ l → x ≤ l.sum
  | a :: l, h => by
    rw [List.sum_cons]
    rcases List.mem_cons.mp h with rfl | h
    · omega
    · have := le_sum h
      omega
theorem runs_le (X : List (Option Int)) (p : Run) (hp : p ∈ runs X) : p.2 ≤ X.length := by
  have h := congrArg List.length (vals_runs_flat X)
  rw [List.length_flatten, List.map_map] at h
  have : p.2 ∈ (runs X).map (List.length ∘ fun p : Run => List.replicate p.2 p.1) := List.mem_map.mpr ⟨p, hp, by simp⟩
  have := le_sum this
  omega
end VL

set_option Elab.async false
set_option linter.all false
set_option maxRecDepth 100000
set_option maxHeartbeats 1000000
namespace VL
open PySem PySem.Spec PyProof.Rows L2
theorem take_next (M : List Int) (i : Nat) (h : i + 1 < M.length) : M.take (i + 2) = M.take (i + 1) ++ [M.getD (i + 1) 0] := by
  rw [List.take_add_one, List.getElem?_eq_getElem h, getD_in _ _ _ h]
  rfl
theorem at_lastI (l : List Int) (a : Int) {ρ : List Dt} {f : List Dt → R Dt} (h : f ρ = rok (LI (l ++ [a]))) : d2 dIx f (d1 dNeg (dC (.int 1))) ρ = rok (.int a) := by
  have e : LI (l ++ [a]) = .lst (l.map Dt.int ++ [.int a]) := by show Dt.lst ((l ++ [a]).map Dt.int) = _; rw [List.map_append]; rfl
  rw [e] at h
  refine Eq.trans (d2_to (b := .int (-1)) h rfl) ?_
  rw [ev_ixL, atI_last]
  rfl
abbrev stepDec : List Dt → R Dt := dIf (dT (d2 dEq (d2 dMod (dVar 2) (dC (.int 2))) (dC (.int 0)))) (d2 dFdiv (dVar 2) (dC (.int 2))) (d2 dFdiv (d1 dNeg (d2 dAdd (dVar 2) (dC (.int 1)))) (dC (.int 2)))
theorem step_dec (a b : Dt) (x : Int) : stepDec [a, b, .int (if x ≥ 0 then 2 * x else -2 * x - 1)] = rok (.int x) := by
  by_cases c : x ≥ 0
  · rw [if_pos c]
    have t : dT (d2 dEq (d2 dMod (dVar 2) (dC (.int 2))) (dC (.int 0))) [a, b, .int (2 * x)] = rok true := by
      refine t_to (Eq.trans (d2_to (Eq.trans (d2_to rfl rfl) (ev_mod _ _ (by decide))) rfl) ?_)
      rw [ev_eqI, decide_eq_true (by omega)]
    refine Eq.trans (if_t t) (Eq.trans (d2_to rfl rfl) (Eq.trans (ev_fdiv _ _ (by decide)) ?_))
    congr 3
    omega
  · rw [if_neg c]
    have t : dT (d2 dEq (d2 dMod (dVar 2) (dC (.int 2))) (dC (.int 0))) [a, b, .int (-2 * x - 1)] = rok false := by
      refine t_to (Eq.trans (d2_to (Eq.trans (d2_to rfl rfl) (ev_mod _ _ (by decide))) rfl) ?_)
      rw [ev_eqI, decide_eq_false (by omega)]
    refine Eq.trans (if_f t) (Eq.trans (d2_to (Eq.trans (d1_to (a := .int (-2 * x - 1 + 1)) (Eq.trans (d2_to rfl rfl) (ev_add _ _))) (ev_neg _)) rfl) (Eq.trans (ev_fdiv _ _ (by decide)) ?_))
    congr 3
    omega
theorem vals_stepsM (M : List Int) (h : 1 ≤ M.length) (h2 : M.length ≤ 1000) : den_Plain_values_of [bSteps (M.map some)] = rok (LI M) := by
  have f0 : OI (fstO (M.map some)) = .int (M.getD 0 0) := by
    unfold fstO
    rw [List.getElem?_map, List.getElem?_eq_getElem (by omega), getD_in _ _ _ (by omega)]
    rfl
  have e1 : dLst (aCons (d1 (gAttr 0 2) (dVar 0)) aNil) [bSteps (M.map some), .non, .non] = rok (LI (M.take 1)) := by
    refine Eq.trans (lst1_to (d := OI (fstO (M.map some))) rfl) ?_
    rw [f0, List.take_add_one, List.getElem?_eq_getElem (by omega), getD_in _ _ _ (by omega)]
    rfl
  have it : iLst (d1 (gAttr 0 3) (dVar 0)) [bSteps (M.map some), LI (M.take 1), .non] = rok ((List.range (M.length - 1)).map fun i => Dt.int (stepOf M i)) := by
    refine lst_to (Eq.trans (d1_to rfl) ?_)
    show rok (LI (stepsOf (nums (M.map some)))) = _
    rw [nums_some]
    unfold stepsOf
    rw [LI, List.map_map]
    rfl
  obtain ⟨ρ', h1, y, h3⟩ := forL_inv (set := setN 2) (s := dAppend 1 (d2 dAdd (d2 dIx (dVar 1) (d1 dNeg (dC (.int 1)))) stepDec)) (fun i => Dt.int (stepOf M i)) (fun pre ρ => ∃ y, ρ = [bSteps (M.map some), LI (M.take (pre.length + 1)), y]) (List.range (M.length - 1)) [] [bSteps (M.map some), LI (M.take 1), .non] ⟨_, rfl⟩ (by
    rintro pre i post ρ e ⟨y, rfl⟩
    rw [List.nil_append] at e
    have hi : i = pre.length := by
      have h0 : (List.range (M.length - 1))[pre.length]? = some i := by rw [e, List.getElem?_append_right (Nat.le_refl _), Nat.sub_self]; rfl
      obtain ⟨_, h2⟩ := List.getElem?_eq_some_iff.mp h0
      rw [List.getElem_range] at h2
      exact h2.symm
    have hlt : i < M.length - 1 := List.mem_range.mp (by rw [e]; simp)
    rw [← hi]
    have hs : M.take (i + 1) = M.take i ++ [M.getD i 0] := by
      rw [List.take_add_one, List.getElem?_eq_getElem (by omega), getD_in _ _ _ (by omega)]; rfl
    refine ⟨[bSteps (M.map some), LI (M.take (i + 1)), .int (stepOf M i)], [bSteps (M.map some), LI (M.take (i + 2)), .int (stepOf M i)], rfl, ?_, .int (stepOf M i), by rw [List.length_append, List.length_singleton, ← hi]⟩
    have e3 : d2 dAdd (d2 dIx (dVar 1) (d1 dNeg (dC (.int 1)))) stepDec [bSteps (M.map some), LI (M.take (i + 1)), .int (stepOf M i)] = rok (.int (M.getD (i + 1) 0)) := by
      have d := step_dec (bSteps (M.map some)) (LI (M.take (i + 1))) (M.getD (i + 1) 0 - M.getD i 0)
      refine Eq.trans (d2_to (at_lastI (M.take i) (M.getD i 0) (by rw [← hs]; rfl)) d) ?_
      rw [ev_add]
      congr 2
      omega
    have a := app_to (i := 1) (ρ := [bSteps (M.map some), LI (M.take (i + 1)), .int (stepOf M i)]) e3 rfl (by rw [List.length_map, List.length_take]; omega)
    refine Eq.trans a ?_
    rw [take_next M i (by omega)]
    have : LI (M.take (i + 1) ++ [M.getD (i + 1) 0]) = .lst ((M.take (i + 1)).map Dt.int ++ [.int (M.getD (i + 1) 0)]) := by show Dt.lst (List.map _ _) = _; rw [List.map_append]; rfl
    rw [this]
    rfl)
  rw [List.nil_append, List.length_range] at h3
  have hM : M.length - 1 + 1 = M.length := by omega
  rw [hM, List.take_length] at h3
  subst h3
  exact fn_rt (Eq.trans (skip (eqs_n (a := "steps") rfl (by decide +kernel))) (Eq.trans (skip (eqs_n (a := "steps") rfl (by decide +kernel))) (Eq.trans (seq_nx (set_to e1)) (Eq.trans (seq_nx (Eq.trans (for_to it) h1)) (ret_to rfl (flat_I M))))))
theorem vals_steps (X : List (Option Int)) (h : 1 ≤ X.length) (h2 : X.length ≤ 1000) (hn : none ∉ X) : den_Plain_values_of [bSteps X] = rok (LO X) := by
  obtain ⟨M, rfl⟩ := no_none X hn
  rw [List.length_map] at h h2
  rw [vals_stepsM M h h2]
  show rok (Dt.lst (M.map Dt.int)) = _
  rw [mapI]
theorem replO (a : Option Int) : ∀ n : Nat, (List.replicate n [OI a]).flatten = (List.replicate n a).map OI
  | 0 => rfl
  | n + 1 => by rw [List.replicate_succ, List.replicate_succ, List.flatten_cons, replO a n]; rfl
theorem vals_runs (X : List (Option Int)) (h2 : X.length ≤ 1000) : den_Runs_values_of [bRuns X] = rok (LO X) := by
  obtain ⟨ρ', h1, y, z, h3⟩ := forL_inv (set := setT2 2 3) (s := dExtend 1 (d2 dRep (dLst (aCons (dVar 2) aNil)) (dVar 3))) runT (fun pre ρ => ∃ y z, ρ = [bRuns X, LO ((pre.map fun p => List.replicate p.2 p.1).flatten), y, z]) (runs X) [] [bRuns X, .lst [], .non, .non] ⟨_, _, rfl⟩ (by
    rintro pre p post ρ e ⟨y, z, rfl⟩
    rw [List.nil_append] at e
    have hp : p ∈ runs X := by rw [e]; simp
    have hle := runs_le X p hp
    have hpre : ((pre.map fun p => List.replicate p.2 p.1).flatten).length ≤ X.length := by
      have h := congrArg List.length (vals_runs_flat X)
      rw [e, List.map_append, List.flatten_append, List.length_append] at h
      omega
    refine ⟨[bRuns X, LO ((pre.map fun p => List.replicate p.2 p.1).flatten), OI p.1, .int (p.2 : Int)], [bRuns X, LO (((pre ++ [p]).map fun p => List.replicate p.2 p.1).flatten), OI p.1, .int (p.2 : Int)], rfl, ?_, _, _, rfl⟩
    have r : d2 dRep (dLst (aCons (dVar 2) aNil)) (dVar 3) [bRuns X, LO ((pre.map fun p => List.replicate p.2 p.1).flatten), OI p.1, .int (p.2 : Int)] = rok (LO (List.replicate p.2 p.1)) := by
      refine Eq.trans (d2_to (lst1_to rfl) rfl) (Eq.trans (rep_to [OI p.1] p.2 ⟨by rw [List.length_singleton]; omega, by omega⟩) ?_)
      rw [replO]
    have hb : (((pre.map fun p : Run => List.replicate p.2 p.1).flatten).map OI).length + ((List.replicate p.2 p.1).map OI).length ≤ 16777216 := by
      rw [List.length_map, List.length_map, List.length_replicate]; omega
    have x := ext_to (i := 1) (f := d2 dRep (dLst (aCons (dVar 2) aNil)) (dVar 3)) (ρ := [bRuns X, LO ((pre.map fun p => List.replicate p.2 p.1).flatten), OI p.1, .int (p.2 : Int)]) (l := ((pre.map fun p : Run => List.replicate p.2 p.1).flatten).map OI) (m := (List.replicate p.2 p.1).map OI) r rfl hb
    refine Eq.trans x ?_
    have e4 : ((pre ++ [p]).map fun p : Run => List.replicate p.2 p.1).flatten = (pre.map fun p => List.replicate p.2 p.1).flatten ++ List.replicate p.2 p.1 := by simp
    rw [e4]
    have e5 : LO ((pre.map fun p : Run => List.replicate p.2 p.1).flatten ++ List.replicate p.2 p.1) = .lst (((pre.map fun p : Run => List.replicate p.2 p.1).flatten).map OI ++ (List.replicate p.2 p.1).map OI) := congrArg Dt.lst List.map_append
    rw [e5]
    rfl)
  subst h3
  rw [List.nil_append, vals_runs_flat] at h1
  exact fn_rt (Eq.trans (seq_nx (set_to rfl)) (Eq.trans (seq_nx (Eq.trans (for_to (lst_to rfl)) h1)) (ret_to rfl (flat_OI X))))
theorem vals_book (X : List (Option Int)) (h2 : X.length ≤ 1000) : den_Book_values_of [bBook X] = rok (LO X) := by
  have c := comp_map (it := iLst (d1 (gAttr 2 3) (dVar 0))) (set := setN 1) (p := pYes) (f := d2 dIx (d1 (gAttr 2 2) (dVar 0)) (dVar 1)) (ρ := [bBook X, .non]) (fun o : Option Int => Dt.int ((bk X).findIdx (fun z => decide (z = o)) : Nat)) (fun _ => true) OI X (by
    refine lst_to (Eq.trans (d1_to rfl) ?_)
    show rok (LN (ixs X)) = _
    unfold ixs
    rw [LN, List.map_map]
    rfl) (by omega) (by
    intro o ho
    refine ⟨_, rfl, rfl, fun _ => ?_⟩
    have hlt := (idx_ok (bk X) o ((bk_mem X o).mpr ho)).2
    refine Eq.trans (d2_to (a := LO (bk X)) rfl rfl) (Eq.trans (at_OI (bk X) _ hlt) ?_)
    have := List.findIdx_getElem (xs := bk X) (p := fun z => decide (z = o)) (w := hlt)
    rw [of_decide_eq_true this])
  rw [filterT] at c
  exact fn_rt (ret_to c (flat_OI X))
end VL

set_option Elab.async false
set_option linter.all false
set_option maxRecDepth 100000
set_option maxHeartbeats 1000000
namespace VL
open PySem PySem.Spec PyProof.Rows L2
/-! ### questions -/
inductive Qn where
  | all | none | is (v : Int) | lt (v : Int) | gt (v : Int) | among (l : List Int) | nt (q : Qn) | both (q r : Qn) | either (q r : Qn)
def qd : Qn → Dt
  | .all => .tup [.str "all"]
  | .none => .tup [.str "none"]
  | .is v => .tup [.str "is", .int v]
  | .lt v => .tup [.str "below", .int v]
  | .gt v => .tup [.str "above", .int v]
  | .among l => .tup [.str "among", LI l]
  | .nt q => .tup [.str "not", qd q]
  | .both q r => .tup [.str "both", qd q, qd r]
  | .either q r => .tup [.str "either", qd q, qd r]
def dep : Qn → Nat
  | .nt q => dep q + 1
  | .both q r => max (dep q) (dep r) + 1
  | .either q r => max (dep q) (dep r) + 1
  | _ => 1
def hB : Qn → Option Int → Bool
  | .all, _ => true
  | .none, o => o.isNone
  | .is v, some x => decide (x = v)
  | .is _, .none => false
  | .lt v, some x => decide (x < v)
  | .lt _, .none => false
  | .gt v, some x => decide (v < x)
  | .gt _, .none => false
  | .among l, some x => decide (some x ∈ l.map some)
  | .among _, .none => false
  | .nt q, o => !hB q o
  | .both q r, o => hB q o && hB r o
  | .either q r, o => hB q o || hB r o
theorem in_to {f g : List Dt → R Dt} {ρ l : List Dt} {a : Dt} (b : Bool) (h : f ρ = rok a) (h2 : g ρ = rok (.tup l)) (fl : (isFlat a && l.all isFlat) = true) (hb : mem l a = b) : dT (d2 dIn f g) ρ = rok b := by
  refine t_to (Eq.trans (d2_to h h2) ?_)
  show rbind (if (isFlat a && l.all isFlat) = true then rok (mem l a) else none) _ = _
  rw [if_pos fl, rbind_ok, hb]
theorem andV_t' {f1 f2 : List Dt → R Dt} {ρ : List Dt} (h : f1 ρ = rok (.bl true)) : dAndV f1 f2 ρ = f2 ρ := by unfold dAndV; rw [h]; rfl
theorem andV_f' {f1 f2 : List Dt → R Dt} {ρ : List Dt} (h : f1 ρ = rok (.bl false)) : dAndV f1 f2 ρ = rok (.bl false) := by unfold dAndV; rw [h]; rfl
theorem orV_t' {f1 f2 : List Dt → R Dt} {ρ : List Dt} (h : f1 ρ = rok (.bl true)) : dOrV f1 f2 ρ = rok (.bl true) := by unfold dOrV; rw [h]; rfl
theorem orV_f' {f1 f2 : List Dt → R Dt} {ρ : List Dt} (h : f1 ρ = rok (.bl false)) : dOrV f1 f2 ρ = f2 ρ := by unfold dOrV; rw [h]; rfl
theorem dep_pos (q : Qn) : 1 ≤ dep q := by cases q <;> simp [dep]
abbrev wN : List Dt → R Dt := dTup (aCons (dC (.str "all")) (aCons (dC (.str "none")) aNil))
theorem holds_ok : ∀ (n : Nat) (q : Qn) (o : Option Int), dep q ≤ n → den_holds n [qd q, OI o] = rok (.bl (hB q o))
  | 0, q, o, h => absurd (dep_pos q) (by omega)
  | n + 1, .all, o, _ => fn_rt (Eq.trans (seq_nx (set_to (d := .str "all") rfl)) (Eq.trans (skip (eqs_n (f := dVar 2) (a := "all") rfl (by decide +kernel))) (Eq.trans (skip (eqs_n (f := dVar 2) (a := "all") rfl (by decide +kernel))) (Eq.trans (skip (eqs_n (f := dVar 2) (a := "all") rfl (by decide +kernel)))
      (take_ (in_to (f := dVar 2) (g := wN) (a := .str "all") (l := [.str "all", .str "none"]) true rfl rfl rfl (by decide +kernel)) (ret_to (orV_t' (Eq.trans (d2_to rfl rfl) (by rw [ev_eqS _ _ (by decide +kernel) (by decide +kernel), beq_self_eq_true]))) rfl))))))
  | n + 1, .none, o, _ => fn_rt (Eq.trans (seq_nx (set_to (d := .str "none") rfl)) (Eq.trans (skip (eqs_n (f := dVar 2) (a := "none") rfl (by decide +kernel))) (Eq.trans (skip (eqs_n (f := dVar 2) (a := "none") rfl (by decide +kernel))) (Eq.trans (skip (eqs_n (f := dVar 2) (a := "none") rfl (by decide +kernel)))
      (take_ (in_to (f := dVar 2) (g := wN) (a := .str "none") (l := [.str "all", .str "none"]) true rfl rfl rfl (by decide +kernel)) (ret_to (Eq.trans (orV_f' (Eq.trans (d2_to (a := .str "none") (b := .str "all") rfl rfl) (by rw [ev_eqS _ _ (by decide +kernel) (by decide +kernel), show (("none" : Str) == "all") = false by decide +kernel]))) (Eq.trans (d2_to rfl rfl) (by rw [ev_isN, isNon_OI]; rfl))) rfl))))))
  | n + 1, .is v, o, _ => by
    refine fn_rt (Eq.trans (seq_nx (set_to (d := .str "is") rfl)) (Eq.trans (skip (eqs_n (f := dVar 2) (a := "is") rfl (by decide +kernel))) (Eq.trans (skip (eqs_n (f := dVar 2) (a := "is") rfl (by decide +kernel))) (Eq.trans (skip (eqs_n (f := dVar 2) (a := "is") rfl (by decide +kernel)))
      (Eq.trans (skip (in_to (f := dVar 2) (g := wN) (a := .str "is") (l := [.str "all", .str "none"]) false rfl rfl rfl (by decide +kernel))) ?_)))))
    cases o with
    | none => exact take_ rfl (ret_to rfl rfl)
    | some x => exact Eq.trans (skip rfl) (Eq.trans (skip (eqs_n (f := dVar 2) (a := "is") rfl (by decide +kernel))) (take_ (eqs_y (f := dVar 2) (a := "is") rfl (by decide +kernel)) (ret_to (Eq.trans (d2_to (a := .int x) (b := .int v) rfl rfl) (ev_eqI _ _)) rfl)))
  | n + 1, .lt v, o, _ => by
    refine fn_rt (Eq.trans (seq_nx (set_to (d := .str "below") rfl)) (Eq.trans (skip (eqs_n (f := dVar 2) (a := "below") rfl (by decide +kernel))) (Eq.trans (skip (eqs_n (f := dVar 2) (a := "below") rfl (by decide +kernel))) (Eq.trans (skip (eqs_n (f := dVar 2) (a := "below") rfl (by decide +kernel)))
      (Eq.trans (skip (in_to (f := dVar 2) (g := wN) (a := .str "below") (l := [.str "all", .str "none"]) false rfl rfl rfl (by decide +kernel))) ?_)))))
    cases o with
    | none => exact take_ rfl (ret_to rfl rfl)
    | some x => exact Eq.trans (skip rfl) (Eq.trans (skip (eqs_n (f := dVar 2) (a := "below") rfl (by decide +kernel))) (Eq.trans (skip (eqs_n (f := dVar 2) (a := "below") rfl (by decide +kernel))) (ret_to (Eq.trans (if_t (eqs_y (f := dVar 2) (a := "below") rfl (by decide +kernel))) (Eq.trans (d2_to (a := .int x) (b := .int v) rfl rfl) (ev_lt _ _))) rfl)))
  | n + 1, .gt v, o, _ => by
    refine fn_rt (Eq.trans (seq_nx (set_to (d := .str "above") rfl)) (Eq.trans (skip (eqs_n (f := dVar 2) (a := "above") rfl (by decide +kernel))) (Eq.trans (skip (eqs_n (f := dVar 2) (a := "above") rfl (by decide +kernel))) (Eq.trans (skip (eqs_n (f := dVar 2) (a := "above") rfl (by decide +kernel)))
      (Eq.trans (skip (in_to (f := dVar 2) (g := wN) (a := .str "above") (l := [.str "all", .str "none"]) false rfl rfl rfl (by decide +kernel))) ?_)))))
    cases o with
    | none => exact take_ rfl (ret_to rfl rfl)
    | some x => exact Eq.trans (skip rfl) (Eq.trans (skip (eqs_n (f := dVar 2) (a := "above") rfl (by decide +kernel))) (Eq.trans (skip (eqs_n (f := dVar 2) (a := "above") rfl (by decide +kernel))) (ret_to (Eq.trans (if_f (eqs_n (f := dVar 2) (a := "above") rfl (by decide +kernel))) (Eq.trans (d2_to (a := .int x) (b := .int v) rfl rfl) (ev_gt _ _))) rfl)))
  | n + 1, .among l, o, _ => by
    refine fn_rt (Eq.trans (seq_nx (set_to (d := .str "among") rfl)) (Eq.trans (skip (eqs_n (f := dVar 2) (a := "among") rfl (by decide +kernel))) (Eq.trans (skip (eqs_n (f := dVar 2) (a := "among") rfl (by decide +kernel))) (Eq.trans (skip (eqs_n (f := dVar 2) (a := "among") rfl (by decide +kernel)))
      (Eq.trans (skip (in_to (f := dVar 2) (g := wN) (a := .str "among") (l := [.str "all", .str "none"]) false rfl rfl rfl (by decide +kernel))) ?_)))))
    cases o with
    | none => exact take_ rfl (ret_to rfl rfl)
    | some x =>
      refine Eq.trans (skip rfl) (take_ (eqs_y (f := dVar 2) (a := "among") rfl (by decide +kernel)) (ret_to (Eq.trans (d2_to (a := .int x) (b := LI l) rfl rfl) ?_) rfl))
      have e : LI l = LO (l.map some) := by show Dt.lst (l.map Dt.int) = _; rw [mapI]
      rw [e]
      exact ev_inO (l.map some) (some x)
  | n + 1, .nt q, o, h => by
    have h : dep q + 1 ≤ n + 1 := h
    exact fn_rt (Eq.trans (seq_nx (set_to (d := .str "not") rfl)) (take_ (eqs_y (f := dVar 2) (a := "not") rfl (by decide +kernel)) (ret_to (Eq.trans (d1_to (Eq.trans (call_2 rfl rfl) (holds_ok n q o (by omega)))) (ev_not _)) rfl)))
  | n + 1, .both q r, o, h => by
    have h : max (dep q) (dep r) + 1 ≤ n + 1 := h
    have h1 := holds_ok n q o (by omega)
    have h2 := holds_ok n r o (by omega)
    refine fn_rt (Eq.trans (seq_nx (set_to (d := .str "both") rfl)) (Eq.trans (skip (eqs_n (f := dVar 2) (a := "both") rfl (by decide +kernel))) (take_ (eqs_y (f := dVar 2) (a := "both") rfl (by decide +kernel)) (ret_to ?_ rfl))))
    show _ = rok (Dt.bl (hB q o && hB r o))
    cases c : hB q o with
    | true => rw [c] at h1; exact Eq.trans (andV_t' (Eq.trans (call_2 rfl rfl) h1)) (Eq.trans (call_2 rfl rfl) h2)
    | false => rw [c] at h1; exact andV_f' (Eq.trans (call_2 rfl rfl) h1)
  | n + 1, .either q r, o, h => by
    have h : max (dep q) (dep r) + 1 ≤ n + 1 := h
    have h1 := holds_ok n q o (by omega)
    have h2 := holds_ok n r o (by omega)
    refine fn_rt (Eq.trans (seq_nx (set_to (d := .str "either") rfl)) (Eq.trans (skip (eqs_n (f := dVar 2) (a := "either") rfl (by decide +kernel))) (Eq.trans (skip (eqs_n (f := dVar 2) (a := "either") rfl (by decide +kernel))) (take_ (eqs_y (f := dVar 2) (a := "either") rfl (by decide +kernel)) (ret_to ?_ rfl)))))
    show _ = rok (Dt.bl (hB q o || hB r o))
    cases c : hB q o with
    | true => rw [c] at h1; exact orV_t' (Eq.trans (call_2 rfl rfl) h1)
    | false => rw [c] at h1; exact Eq.trans (orV_f' (Eq.trans (call_2 rfl rfl) h1)) (Eq.trans (call_2 rfl rfl) h2)
end VL

set_option Elab.async false
set_option linter.all false
set_option maxRecDepth 100000
set_option maxHeartbeats 1000000
namespace VL
open PySem PySem.Spec PyProof.Rows L2
abbrev LB (l : List Bool) : Dt := .lst (l.map Dt.bl)
theorem flat_B (l : List Bool) : (l.map Dt.bl).all isFlat = true := by
  rw [List.all_map]; simp [Function.comp_def, isFlat]
/-! ### whether each row answers -/
theorem ans_plain (b : Dt) (l : List Dt) (hb : b = .obj 0 l) (X : List (Option Int)) (h : den_Plain_values_of [b] = rok (LO X)) (h2 : X.length ≤ 1000) (q : Qn) (hq : dep q ≤ 12) : den_Plain_answers [b, qd q] = rok (LB (X.map (hB q))) := by
  subst hb
  have c := comp_map (it := iLst (dMeth 0 den_Plain_values_of (dVar 0) aNil)) (set := setN 2) (p := pYes) (f := dCall (den_holds 12) (aCons (dVar 1) (aCons (dVar 2) aNil))) (ρ := [.obj 0 l, qd q, .non]) OI (fun _ => true) (fun o => Dt.bl (hB q o)) X (lst_to (Eq.trans (meth_to rfl rfl) h)) (by omega) (fun o _ => ⟨[.obj 0 l, qd q, OI o], rfl, rfl, fun _ => Eq.trans (call_2 rfl rfl) (holds_ok 12 q o hq)⟩)
  rw [filterT] at c
  have e : X.map (fun o => Dt.bl (hB q o)) = (X.map (hB q)).map Dt.bl := by rw [List.map_map]; rfl
  rw [e] at c
  exact fn_rt (ret_to c (flat_B _))
theorem replB (a : Bool) : ∀ n : Nat, (List.replicate n [Dt.bl a]).flatten = (List.replicate n a).map Dt.bl
  | 0 => rfl
  | n + 1 => by rw [List.replicate_succ, List.replicate_succ, List.flatten_cons, replB a n]; rfl
theorem flat_map_len (f : Option Int → Bool) : ∀ R : List Run, ((R.map fun p => List.replicate p.2 (f p.1)).flatten) = ((R.map fun p => List.replicate p.2 p.1).flatten).map f
  | [] => rfl
  | p :: R => by
    rw [List.map_cons, List.map_cons, List.flatten_cons, List.flatten_cons, List.map_append, List.map_replicate, flat_map_len f R]
theorem ans_runs (X : List (Option Int)) (h2 : X.length ≤ 1000) (q : Qn) (hq : dep q ≤ 12) : den_Runs_answers [bRuns X, qd q] = rok (LB (X.map (hB q))) := by
  obtain ⟨ρ', h1, y, z, h3⟩ := forL_inv (set := setT2 3 4) (s := dExtend 2 (d2 dRep (dLst (aCons (dCall (den_holds 12) (aCons (dVar 1) (aCons (dVar 3) aNil))) aNil)) (dVar 4))) runT (fun pre ρ => ∃ y z, ρ = [bRuns X, qd q, LB ((pre.map fun p => List.replicate p.2 (hB q p.1)).flatten), y, z]) (runs X) [] [bRuns X, qd q, .lst [], .non, .non] ⟨_, _, rfl⟩ (by
    rintro pre p post ρ e ⟨y, z, rfl⟩
    rw [List.nil_append] at e
    have hp : p ∈ runs X := by rw [e]; simp
    have hle := runs_le X p hp
    have hpre : ((pre.map fun p => List.replicate p.2 (hB q p.1)).flatten).length ≤ X.length := by
      rw [flat_map_len, List.length_map]
      have h := congrArg List.length (vals_runs_flat X)
      rw [e, List.map_append, List.flatten_append, List.length_append] at h
      omega
    refine ⟨[bRuns X, qd q, LB ((pre.map fun p => List.replicate p.2 (hB q p.1)).flatten), OI p.1, .int (p.2 : Int)], [bRuns X, qd q, LB (((pre ++ [p]).map fun p => List.replicate p.2 (hB q p.1)).flatten), OI p.1, .int (p.2 : Int)], rfl, ?_, _, _, rfl⟩
    have r : d2 dRep (dLst (aCons (dCall (den_holds 12) (aCons (dVar 1) (aCons (dVar 3) aNil))) aNil)) (dVar 4) [bRuns X, qd q, LB ((pre.map fun p => List.replicate p.2 (hB q p.1)).flatten), OI p.1, .int (p.2 : Int)] = rok (LB (List.replicate p.2 (hB q p.1))) := by
      refine Eq.trans (d2_to (lst1_to (Eq.trans (call_2 rfl rfl) (holds_ok 12 q p.1 hq))) rfl) (Eq.trans (rep_to [.bl (hB q p.1)] p.2 ⟨by rw [List.length_singleton]; omega, by omega⟩) ?_)
      rw [replB]
    have hb : (((pre.map fun p : Run => List.replicate p.2 (hB q p.1)).flatten).map Dt.bl).length + ((List.replicate p.2 (hB q p.1)).map Dt.bl).length ≤ 16777216 := by
      rw [List.length_map, List.length_map, List.length_replicate]; omega
    have x := ext_to (i := 2) (f := d2 dRep (dLst (aCons (dCall (den_holds 12) (aCons (dVar 1) (aCons (dVar 3) aNil))) aNil)) (dVar 4)) (ρ := [bRuns X, qd q, LB ((pre.map fun p => List.replicate p.2 (hB q p.1)).flatten), OI p.1, .int (p.2 : Int)]) (l := ((pre.map fun p : Run => List.replicate p.2 (hB q p.1)).flatten).map Dt.bl) (m := (List.replicate p.2 (hB q p.1)).map Dt.bl) r rfl hb
    refine Eq.trans x ?_
    have e4 : ((pre ++ [p]).map fun p : Run => List.replicate p.2 (hB q p.1)).flatten = (pre.map fun p => List.replicate p.2 (hB q p.1)).flatten ++ List.replicate p.2 (hB q p.1) := by simp
    rw [e4]
    have e5 : LB ((pre.map fun p : Run => List.replicate p.2 (hB q p.1)).flatten ++ List.replicate p.2 (hB q p.1)) = .lst (((pre.map fun p : Run => List.replicate p.2 (hB q p.1)).flatten).map Dt.bl ++ (List.replicate p.2 (hB q p.1)).map Dt.bl) := congrArg Dt.lst List.map_append
    rw [e5]
    rfl)
  subst h3
  rw [List.nil_append, flat_map_len, vals_runs_flat] at h1
  exact fn_rt (Eq.trans (seq_nx (set_to rfl)) (Eq.trans (seq_nx (Eq.trans (for_to (lst_to rfl)) h1)) (ret_to rfl (flat_B _))))
theorem ix_at (X : List (Option Int)) (o : Option Int) (ho : o ∈ X) : (bk X)[(bk X).findIdx (fun z => decide (z = o))]? = some o := by
  have hlt := (idx_ok (bk X) o ((bk_mem X o).mpr ho)).2
  have := List.findIdx_getElem (xs := bk X) (p := fun z => decide (z = o)) (w := hlt)
  rw [List.getElem?_eq_getElem hlt, of_decide_eq_true this]
theorem at_B (l : List Bool) (i : Nat) (b : Bool) (h : l[i]? = some b) : dIx (LB l) (.int (i : Int)) = rok (.bl b) := by
  rw [ev_ixL, atI_nat, List.getElem?_map, h]
  rfl
theorem ans_book (X : List (Option Int)) (h2 : X.length ≤ 1000) (q : Qn) (hq : dep q ≤ 12) : den_Book_answers [bBook X, qd q] = rok (LB (X.map (hB q))) := by
  have hl := bk_len X
  have c := comp_map (it := iLst (d1 (gAttr 2 2) (dVar 0))) (set := setN 3) (p := pYes) (f := dCall (den_holds 12) (aCons (dVar 1) (aCons (dVar 3) aNil))) (ρ := [bBook X, qd q, .non, .non, .non]) OI (fun _ => true) (fun o => Dt.bl (hB q o)) (bk X) (lst_to (Eq.trans (d1_to (a := bBook X) rfl) rfl)) (by omega) (fun o _ => ⟨[bBook X, qd q, .non, OI o, .non], rfl, rfl, fun _ => Eq.trans (call_2 rfl rfl) (holds_ok 12 q o hq)⟩)
  rw [filterT] at c
  have e : (bk X).map (fun o => Dt.bl (hB q o)) = ((bk X).map (hB q)).map Dt.bl := by rw [List.map_map]; rfl
  rw [e] at c
  have c2 := comp_map (it := iLst (d1 (gAttr 2 3) (dVar 0))) (set := setN 4) (p := pYes) (f := d2 dIx (dVar 2) (dVar 4)) (ρ := [bBook X, qd q, LB ((bk X).map (hB q)), .non, .non]) (fun o : Option Int => Dt.int ((bk X).findIdx (fun z => decide (z = o)) : Nat)) (fun _ => true) (fun o => Dt.bl (hB q o)) X (by
    refine lst_to (Eq.trans (d1_to rfl) ?_)
    show rok (LN (ixs X)) = _
    unfold ixs
    rw [LN, List.map_map]
    rfl) (by omega) (fun o ho => ⟨[bBook X, qd q, LB ((bk X).map (hB q)), .non, .int ((bk X).findIdx (fun z => decide (z = o)) : Nat)], rfl, rfl, fun _ => Eq.trans (d2_to rfl rfl) (at_B _ _ _ (by rw [List.getElem?_map, ix_at X o ho]; rfl))⟩)
  rw [filterT] at c2
  have e2 : X.map (fun o => Dt.bl (hB q o)) = (X.map (hB q)).map Dt.bl := by rw [List.map_map]; rfl
  rw [e2] at c2
  exact fn_rt (Eq.trans (seq_nx (set_to c)) (ret_to c2 (flat_B _)))
/-! ### the values that answer, with how often -/
def isum (l : List Int) : Int := l.sum
structure TOk (q : Qn) (T : List Run) (X : List (Option Int)) : Prop where
  sum : ∀ φ : Option Int → Int, (T.map fun p => φ p.1 * (p.2 : Int)).sum = ((X.filter (hB q)).map φ).sum
  mem : ∀ v, v ∈ T.map (·.1) ↔ v ∈ X.filter (hB q)
  len : T.length ≤ X.length
theorem tal_plain (b : Dt) (l : List Dt) (hb : b = .obj 0 l) (X : List (Option Int)) (h : den_Plain_values_of [b] = rok (LO X)) (h2 : X.length ≤ 1000) (q : Qn) (hq : dep q ≤ 12) : ∃ T, den_Plain_tallies [b, qd q] = rok (.lst (T.map runT)) ∧ TOk q T X := by
  subst hb
  have c := comp_map (it := iLst (dMeth 0 den_Plain_values_of (dVar 0) aNil)) (set := setN 2) (p := dT (dCall (den_holds 12) (aCons (dVar 1) (aCons (dVar 2) aNil)))) (f := dTup (aCons (dVar 2) (aCons (dC (.int 1)) aNil))) (ρ := [.obj 0 l, qd q, .non]) OI (hB q) (fun o => runT (o, 1)) X (lst_to (Eq.trans (meth_to rfl rfl) h)) (by omega) (fun o _ => ⟨[.obj 0 l, qd q, OI o], rfl, t_to (Eq.trans (call_2 rfl rfl) (holds_ok 12 q o hq)), fun _ => tup2_to rfl rfl⟩)
  refine ⟨(X.filter (hB q)).map fun o => (o, 1), fn_rt (ret_to (Eq.trans c (by rw [List.map_map]; rfl)) rfl), ⟨fun φ => ?_, fun v => ?_, ?_⟩⟩
  · rw [List.map_map]
    congr 1
    refine List.map_congr_left fun o _ => ?_
    show φ o * ((1 : Nat) : Int) = φ o
    omega
  · rw [List.map_map]
    show v ∈ (X.filter (hB q)).map (fun o => o) ↔ _
    rw [List.map_id']
  · rw [List.length_map]; exact List.length_filter_le _ _
theorem sum_rep (x : Int) : ∀ n : Nat, (List.replicate n x).sum = x * (n : Int)
  | 0 => by simp
  | n + 1 => by
    rw [List.replicate_succ, List.sum_cons, sum_rep x n]
    have : ((n + 1 : Nat) : Int) = (n : Int) + 1 := by omega
    rw [this, Int.mul_add, Int.mul_one, Int.add_comm]
theorem runs_sum (q : Qn) (φ : Option Int → Int) : ∀ R : List Run, ((R.filter fun p => hB q p.1).map fun p => φ p.1 * (p.2 : Int)).sum = ((((R.map fun p => List.replicate p.2 p.1).flatten).filter (hB q)).map φ).sum
  | [] => rfl
  | p :: R => by
    rw [List.map_cons, List.flatten_cons, List.filter_append, List.map_append, List.sum_append, ← runs_sum q φ R, List.filter_cons, List.filter_replicate]
    cases c : hB q p.1 with
    | true => rw [if_pos rfl, if_pos rfl, List.map_cons, List.sum_cons, List.map_replicate, sum_rep]
    | false => simp
theorem tal_runs (X : List (Option Int)) (h2 : X.length ≤ 1000) (q : Qn) (hq : dep q ≤ 12) : ∃ T, den_Runs_tallies [bRuns X, qd q] = rok (.lst (T.map runT)) ∧ TOk q T X := by
  have hl := runs_len X
  have c := comp_map (it := iLst (d1 (gAttr 1 2) (dVar 0))) (set := setT2 2 3) (p := dT (dCall (den_holds 12) (aCons (dVar 1) (aCons (dVar 2) aNil)))) (f := dTup (aCons (dVar 2) (aCons (dVar 3) aNil))) (ρ := [bRuns X, qd q, .non, .non]) runT (fun p => hB q p.1) runT (runs X) (lst_to (Eq.trans (d1_to (a := bRuns X) rfl) rfl)) (by omega) (fun p _ => ⟨[bRuns X, qd q, OI p.1, .int (p.2 : Int)], rfl, t_to (Eq.trans (call_2 rfl rfl) (holds_ok 12 q p.1 hq)), fun _ => tup2_to rfl rfl⟩)
  refine ⟨(runs X).filter fun p => hB q p.1, fn_rt (ret_to c rfl), ⟨fun φ => ?_, fun v => ?_, ?_⟩⟩
  · rw [runs_sum, vals_runs_flat]
  · rw [List.mem_filter]
    constructor
    · intro h
      obtain ⟨p, hp, rfl⟩ := List.mem_map.mp h
      obtain ⟨h3, h4⟩ := List.mem_filter.mp hp
      refine ⟨?_, h4⟩
      rw [← vals_runs_flat X]
      exact List.mem_flatten.mpr ⟨_, List.mem_map.mpr ⟨p, h3, rfl⟩, List.mem_replicate.mpr ⟨by have := runs_pos X p h3; omega, rfl⟩⟩
    · rintro ⟨h3, h4⟩
      rw [← vals_runs_flat X] at h3
      obtain ⟨y, hy, hv⟩ := List.mem_flatten.mp h3
      obtain ⟨p, hp, rfl⟩ := List.mem_map.mp hy
      obtain ⟨_, rfl⟩ := List.mem_replicate.mp hv
      exact List.mem_map.mpr ⟨p, List.mem_filter.mpr ⟨hp, h4⟩, rfl⟩
  · have := List.length_filter_le (fun p : Run => hB q p.1) (runs X)
    omega
theorem count_N (l : List Nat) (k : Nat) : mCount (l.map fun n : Nat => Dt.int (n : Int)) (.int (k : Int)) = rok (.int (l.count k : Nat)) := by
  unfold mCount
  have f : (isFlat (.int (k : Int)) && (l.map fun n : Nat => Dt.int (n : Int)).all isFlat) = true := by
    rw [List.all_map]; simp [Function.comp_def, isFlat]
  rw [if_pos f, List.countP_map]
  congr 3
  unfold List.count
  congr 1
  congr 1
  funext n
  show PyData.eqv (toPy (.int (n : Int))) (toPy (.int (k : Int))) = (n == k)
  have := eqv_OI (some (n : Int)) (some (k : Int))
  rw [show OI (some (n : Int)) = .int (n : Int) from rfl, show OI (some (k : Int)) = .int (k : Int) from rfl] at this
  rw [this]
  by_cases c : n = k
  · subst c; simp
  · have : ¬ ((n : Int) = (k : Int)) := by omega
    simp [c, this]
theorem sum_zero : ∀ m : Nat, ((List.range m).map fun _ => (0 : Int)).sum = 0
  | 0 => rfl
  | m + 1 => by rw [List.range_succ, List.map_append, List.sum_append, sum_zero m]; rfl
theorem sum_count (g : Nat → Int) (m : Nat) : ∀ l : List Nat, (∀ n ∈ l, n < m) → ((List.range m).map fun k => g k * ((l.count k : Nat) : Int)).sum = (l.map g).sum
  | [], _ => by
    have : (List.range m).map (fun k => g k * ((([] : List Nat).count k : Nat) : Int)) = (List.range m).map fun _ => (0 : Int) := List.map_congr_left fun k _ => by simp
    rw [this, sum_zero]
    rfl
  | n :: l, h => by
    have ih := sum_count g m l fun x hx => h x (List.mem_cons_of_mem _ hx)
    rw [List.map_cons, List.sum_cons, ← ih]
    have hn := h n List.mem_cons_self
    have key : ∀ m, ((List.range m).map fun k => g k * (((n :: l).count k : Nat) : Int)).sum = (if n < m then g n else 0) + ((List.range m).map fun k => g k * ((l.count k : Nat) : Int)).sum := by
      intro m
      induction m with
      | zero => simp
      | succ m ih2 =>
        rw [List.range_succ, List.map_append, List.map_append, List.sum_append, List.sum_append, ih2, List.map_singleton, List.map_singleton, List.sum_singleton, List.sum_singleton, List.count_cons]
        by_cases c : n = m
        · subst c
          rw [if_neg (show ¬ n < n by omega), if_pos (show n < n + 1 by omega), if_pos (show (n == n) = true by simp)]
          have : ((l.count n + 1 : Nat) : Int) = (l.count n : Int) + 1 := by omega
          rw [this, Int.mul_add, Int.mul_one]
          omega
        · have c' : ¬ ((n == m) = true) := by simp [c]
          rw [if_neg c', Nat.add_zero]
          by_cases d : n < m
          · rw [if_pos d, if_pos (show n < m + 1 by omega)]; omega
          · rw [if_neg d, if_neg (show ¬ n < m + 1 by omega)]; omega
    rw [key m, if_pos hn]
theorem tal_book (X : List (Option Int)) (h2 : X.length ≤ 1000) (q : Qn) (hq : dep q ≤ 12) : ∃ T, den_Book_tallies [bBook X, qd q] = rok (.lst (T.map runT)) ∧ TOk q T X := by
  have hl := bk_len X
  let w : Nat → Option Int := fun k => ((bk X)[k]?).join
  have hw : ∀ k, k < (bk X).length → (bk X)[k]? = some (w k) := fun k hk => by
    show _ = some (((bk X)[k]?).join)
    rw [List.getElem?_eq_getElem hk]; rfl
  have hr : iRng (aCons (dCall (one bLen) (aCons (d1 (gAttr 2 2) (dVar 0)) aNil)) aNil) rng1 [bBook X, qd q, .lst [], .non] = rok ((List.range (bk X).length).map fun i : Nat => Dt.int (0 + (i : Int))) := by
    rw [iRng1_to (a := ((bk X).length : Int)) (len_to (Eq.trans (d1_to (a := bBook X) rfl) rfl)) (by omega), rng_eq, Int.toNat_natCast]
  obtain ⟨ρ', h1, y, h3⟩ := forL_inv (set := setN 3) (s := dIfS (dT (dCall (den_holds 12) (aCons (dVar 1) (aCons (d2 dIx (d1 (gAttr 2 2) (dVar 0)) (dVar 3)) aNil)))) (dAppend 2 (dTup (aCons (d2 dIx (d1 (gAttr 2 2) (dVar 0)) (dVar 3)) (aCons (dML mCount (d1 (gAttr 2 3) (dVar 0)) (dVar 3)) aNil)))) dNext) (fun i : Nat => Dt.int (0 + (i : Int))) (fun pre ρ => ∃ y, ρ = [bBook X, qd q, .lst (((pre.filter fun k => hB q (w k)).map fun k => (w k, (ixs X).count k)).map runT), y]) (List.range (bk X).length) [] [bBook X, qd q, .lst [], .non] ⟨_, rfl⟩ (by
    rintro pre k post ρ e ⟨y, rfl⟩
    rw [List.nil_append] at e
    have hk : k < (bk X).length := List.mem_range.mp (by rw [e]; simp)
    have hpre : pre.length ≤ (bk X).length := by
      have := congrArg List.length e
      rw [List.length_range, List.length_append] at this
      omega
    have e0 : (0 : Int) + (k : Int) = (k : Int) := by omega
    have ewk : ∀ Y, d2 dIx (d1 (gAttr 2 2) (dVar 0)) (dVar 3) [bBook X, qd q, Y, .int (k : Int)] = rok (OI (w k)) := fun Y => by
      refine Eq.trans (d2_to (a := LO (bk X)) rfl rfl) ?_
      rw [ev_ixL, atI_nat, List.getElem?_map, hw k hk]
      rfl
    have t : ∀ Y, dT (dCall (den_holds 12) (aCons (dVar 1) (aCons (d2 dIx (d1 (gAttr 2 2) (dVar 0)) (dVar 3)) aNil))) [bBook X, qd q, Y, .int (k : Int)] = rok (hB q (w k)) := fun Y => t_to (Eq.trans (call_2 rfl (ewk Y)) (holds_ok 12 q (w k) hq))
    refine ⟨[bBook X, qd q, .lst (((pre.filter fun k => hB q (w k)).map fun k => (w k, (ixs X).count k)).map runT), .int (k : Int)], [bBook X, qd q, .lst ((((pre ++ [k]).filter fun k => hB q (w k)).map fun k => (w k, (ixs X).count k)).map runT), .int (k : Int)], by rw [e0]; rfl, ?_, _, rfl⟩
    have t1 := t (.lst (((pre.filter fun k => hB q (w k)).map fun k => (w k, (ixs X).count k)).map runT))
    rw [List.filter_append]
    cases c : hB q (w k) with
    | true =>
      rw [c] at t1
      have ct : dML mCount (d1 (gAttr 2 3) (dVar 0)) (dVar 3) [bBook X, qd q, .lst (((pre.filter fun k => hB q (w k)).map fun k => (w k, (ixs X).count k)).map runT), .int (k : Int)] = rok (.int ((ixs X).count k : Nat)) := Eq.trans (ml_to (z := (ixs X).map fun n : Nat => Dt.int (n : Int)) rfl rfl) (count_N (ixs X) k)
      have a := app_to (i := 2) (ρ := [bBook X, qd q, .lst (((pre.filter fun k => hB q (w k)).map fun k => (w k, (ixs X).count k)).map runT), .int (k : Int)]) (tup2_to (ewk _) ct) rfl (by
        rw [List.length_map, List.length_map]
        have := List.length_filter_le (fun k => hB q (w k)) pre
        omega)
      refine Eq.trans (ifS_t t1) (Eq.trans a ?_)
      have e4 : [k].filter (fun k => hB q (w k)) = [k] := by rw [List.filter_cons, c]; rfl
      rw [e4, List.map_append, List.map_append]
      rfl
    | false =>
      rw [c] at t1
      have e4 : [k].filter (fun k => hB q (w k)) = [] := by rw [List.filter_cons, c]; rfl
      rw [e4, List.append_nil]
      exact Eq.trans (ifS_f t1) rfl)
  subst h3
  rw [List.nil_append] at h1
  have hix : ∀ n ∈ ixs X, n < (bk X).length := fun n hn => by
    obtain ⟨o, ho, rfl⟩ := List.mem_map.mp hn
    exact (idx_ok (bk X) o ((bk_mem X o).mpr ho)).2
  have hwi : ∀ o ∈ X, w ((bk X).findIdx fun z => decide (z = o)) = o := fun o ho => by
    show ((bk X)[(bk X).findIdx fun z => decide (z = o)]?).join = o
    rw [ix_at X o ho]; rfl
  refine ⟨((List.range (bk X).length).filter fun k => hB q (w k)).map fun k => (w k, (ixs X).count k), fn_rt (Eq.trans (seq_nx (set_to rfl)) (Eq.trans (seq_nx (Eq.trans (for_to hr) h1)) (ret_to rfl rfl))), ⟨fun φ => ?_, fun v => ?_, ?_⟩⟩
  · rw [List.map_map]
    have s1 := sum_count (fun k => if hB q (w k) = true then φ (w k) else 0) (bk X).length (ixs X) hix
    have e1 : ∀ L : List Nat, ((L.filter fun k => hB q (w k)).map ((fun p : Run => φ p.1 * (p.2 : Int)) ∘ fun k => (w k, (ixs X).count k))).sum = (L.map fun k => (if hB q (w k) = true then φ (w k) else 0) * (((ixs X).count k : Nat) : Int)).sum := by
      intro L
      induction L with
      | nil => rfl
      | cons k L ih =>
        rw [List.filter_cons, List.map_cons, List.sum_cons, ← ih]
        cases c : hB q (w k) with
        | true => rw [if_pos rfl, if_pos rfl, List.map_cons, List.sum_cons]; rfl
        | false => simp
    rw [e1, s1]
    unfold ixs
    rw [List.map_map]
    have e2 : ∀ L : List (Option Int), (∀ o ∈ L, o ∈ X) → (L.map ((fun k => if hB q (w k) = true then φ (w k) else 0) ∘ fun o => (bk X).findIdx fun z => decide (z = o))).sum = ((L.filter (hB q)).map φ).sum := by
      intro L hL
      induction L with
      | nil => rfl
      | cons o L ih =>
        rw [List.map_cons, List.sum_cons, ih fun x hx => hL x (List.mem_cons_of_mem _ hx), List.filter_cons]
        have ho := hwi o (hL o List.mem_cons_self)
        show (if hB q (w ((bk X).findIdx fun z => decide (z = o))) = true then φ (w ((bk X).findIdx fun z => decide (z = o))) else 0) + _ = _
        rw [ho]
        cases c : hB q o with
        | true => rw [if_pos rfl, if_pos rfl, List.map_cons, List.sum_cons]
        | false => simp
    exact e2 X fun o ho => ho
  · rw [List.map_map, List.mem_filter]
    constructor
    · intro h
      obtain ⟨k, hk, rfl⟩ := List.mem_map.mp h
      obtain ⟨h3, h4⟩ := List.mem_filter.mp hk
      exact ⟨(bk_mem X (w k)).mp (List.mem_of_getElem? (hw k (List.mem_range.mp h3))), h4⟩
    · rintro ⟨h3, h4⟩
      refine List.mem_map.mpr ⟨(bk X).findIdx fun z => decide (z = v), List.mem_filter.mpr ⟨List.mem_range.mpr (idx_ok (bk X) v ((bk_mem X v).mpr h3)).2, ?_⟩, hwi v h3⟩
      rw [hwi v h3]; exact h4
  · rw [List.length_map]
    have := List.length_filter_le (fun k => hB q (w k)) (List.range (bk X).length)
    rw [List.length_range] at this
    omega
end VL

set_option Elab.async false
set_option linter.all false
set_option maxRecDepth 100000
set_option maxHeartbeats 1000000
namespace VL
open PySem PySem.Spec PyProof.Rows L2
structure Blk (b : Dt) (k : Str) (X : List (Option Int)) : Prop where
  at0 : ∃ c l, b = .obj c l ∧ c ≤ 2 ∧ l[0]? = some (.str k) ∧ l[1]? = some (.int (X.length : Int))
  vals : disp den_Plain_values_of den_Runs_values_of den_Book_values_of b [] = rok (LO X)
  ans : ∀ q, dep q ≤ 12 → disp den_Plain_answers den_Runs_answers den_Book_answers b [qd q] = rok (LB (X.map (hB q)))
  tal : ∀ q, dep q ≤ 12 → ∃ T, disp den_Plain_tallies den_Runs_tallies den_Book_tallies b [qd q] = rok (.lst (T.map runT)) ∧ TOk q T X
theorem blk_plain (X : List (Option Int)) (h2 : X.length ≤ 1000) : Blk (bPlain X) "plain" X where
  at0 := ⟨0, _, rfl, by decide, rfl, rfl⟩
  vals := vals_plain X
  ans := fun q hq => ans_plain (bPlain X) _ rfl X (vals_plain X) h2 q hq
  tal := fun q hq => tal_plain (bPlain X) _ rfl X (vals_plain X) h2 q hq
theorem blk_base (X : List (Option Int)) (h2 : X.length ≤ 1000) : Blk (bBase X) "base" X where
  at0 := ⟨0, _, rfl, by decide, rfl, rfl⟩
  vals := vals_base X h2
  ans := fun q hq => ans_plain (bBase X) _ rfl X (vals_base X h2) h2 q hq
  tal := fun q hq => tal_plain (bBase X) _ rfl X (vals_base X h2) h2 q hq
theorem blk_steps (X : List (Option Int)) (h : 1 ≤ X.length) (h2 : X.length ≤ 1000) (hn : none ∉ X) : Blk (bSteps X) "steps" X where
  at0 := ⟨0, _, rfl, by decide, rfl, rfl⟩
  vals := vals_steps X h h2 hn
  ans := fun q hq => ans_plain (bSteps X) _ rfl X (vals_steps X h h2 hn) h2 q hq
  tal := fun q hq => tal_plain (bSteps X) _ rfl X (vals_steps X h h2 hn) h2 q hq
theorem blk_runs (X : List (Option Int)) (h2 : X.length ≤ 1000) : Blk (bRuns X) "runs" X where
  at0 := ⟨1, _, rfl, by decide, rfl, rfl⟩
  vals := vals_runs X h2
  ans := fun q hq => ans_runs X h2 q hq
  tal := fun q hq => tal_runs X h2 q hq
theorem blk_book (X : List (Option Int)) (h2 : X.length ≤ 1000) : Blk (bBook X) "book" X where
  at0 := ⟨2, _, rfl, by decide, rfl, rfl⟩
  vals := vals_book X h2
  ans := fun q hq => ans_book X h2 q hq
  tal := fun q hq => tal_book X h2 q hq
theorem block_of_ok (X : List (Option Int)) (h : 1 ≤ X.length) (h2 : X.length ≤ 1000) (k : Str) (hk : k ∈ kinds) (hs : k = "steps" → none ∉ X) : ∃ b, Blk b k X ∧ den_block_of [.str k, LO X] = rok b := by
  simp only [kinds, List.mem_cons, List.not_mem_nil, or_false] at hk
  rcases hk with rfl | rfl | rfl | rfl | rfl
  · exact ⟨bPlain X, blk_plain X h2, fn_rt (Eq.trans (skip (kn (by decide +kernel))) (Eq.trans (skip (kn (by decide +kernel))) (ret_to (new_to (ds := [.str "plain", LO X]) rfl (new_plain X h) rfl) rfl)))⟩
  · exact ⟨bRuns X, blk_runs X h2, fn_rt (take_ (ky (by decide +kernel)) (ret_to (new_to (ds := [.str "runs", LO X]) rfl (new_runs X h2) rfl) rfl))⟩
  · exact ⟨bBook X, blk_book X h2, fn_rt (Eq.trans (skip (kn (by decide +kernel))) (take_ (ky (by decide +kernel)) (ret_to (new_to (ds := [.str "book", LO X]) rfl (new_book X h2) rfl) rfl)))⟩
  · exact ⟨bBase X, blk_base X h2, fn_rt (Eq.trans (skip (kn (by decide +kernel))) (Eq.trans (skip (kn (by decide +kernel))) (ret_to (new_to (ds := [.str "base", LO X]) rfl (new_base X h h2) rfl) rfl)))⟩
  · exact ⟨bSteps X, blk_steps X h h2 (hs rfl), fn_rt (Eq.trans (skip (kn (by decide +kernel))) (Eq.trans (skip (kn (by decide +kernel))) (ret_to (new_to (ds := [.str "steps", LO X]) rfl (new_steps X h h2 (hs rfl)) rfl) rfl)))⟩
open Classical in
noncomputable def bo (X : List (Option Int)) : Dt := if h : ∃ b, Blk b (kd X) X ∧ den_block_of [.str (kd X), LO X] = rok b then h.choose else .non
theorem bo_ok (X : List (Option Int)) (h : Okl X) (p : Part X (lr X) (kd X)) : Blk (bo X) (kd X) X ∧ den_block_of [.str (kd X), LO X] = rok (bo X) := by
  have e := block_of_ok X h.1 (by have := h.2.1; omega) (kd X) p.kd (fun hk hn => by
    have r := p.rm
    rw [hk, room4n X h hn] at r
    injection r with r
    injection r with r
    cases r)
  unfold bo
  rw [dif_pos e]
  exact e.choose_spec
/-! ### columns -/
noncomputable def parts (V : List (Option Int)) : List (List (Option Int)) := segs V 0 (ends V)
noncomputable def colO (V : List (Option Int)) : Dt := .obj 3 [.lst ((parts V).map bo)]
theorem parts_ok (V : List (Option Int)) (hV : ∀ o ∈ V, okV o) (hn : V.length ≤ 64) : ∀ X ∈ parts V, Okl X ∧ X.length ≤ 64 ∧ Part X (lr X) (kd X) ∧ Blk (bo X) (kd X) X ∧ den_block_of [.str (kd X), LO X] = rok (bo X) := fun X hX => by
  obtain ⟨h1, h2, h3⟩ := seg_part V hV hn (ends V) 0 (ends_ok V hn).1 X hX
  obtain ⟨h4, h5⟩ := bo_ok X h1 h3
  exact ⟨h1, h2, h3, h4, h5⟩
theorem parts_len (V : List (Option Int)) (hn : V.length ≤ 64) : (parts V).length ≤ 64 := by
  unfold parts
  rw [segs_len]
  have := okc_len V (ends V) 0 (ends_ok V hn).1 (Nat.zero_le _)
  omega
theorem cut_cat (V : List (Option Int)) (b e z : Nat) (h1 : b ≤ e) (h2 : e ≤ z) : cut V b e ++ cut V e z = cut V b z := by
  unfold cut
  have e1 : (V.drop b).take (z - b) = (V.drop b).take (e - b + (z - e)) := by congr 1; omega
  rw [e1, List.take_add, List.drop_drop]
  have : b + (e - b) = e := by omega
  rw [this]
theorem segs_flat (V : List (Option Int)) : ∀ (E : List Nat) (b : Nat), ok V b E → (segs V b E).flatten = cut V b (E.getLast?.getD b)
  | [], b, _ => by simp [segs, cut]
  | e :: E, b, ⟨h1, h2, h3⟩ => by
    have g : (e :: E).getLast?.getD b = E.getLast?.getD e := by
      cases E with
      | nil => rfl
      | cons x E => rw [List.getLast?_cons_cons, List.getLast?_cons]; rfl
    have hle : ∀ (E : List Nat) (e : Nat), ok V e E → e ≤ E.getLast?.getD e := by
      intro E
      induction E with
      | nil => intro e _; exact Nat.le_refl _
      | cons x E ih =>
        rintro e ⟨h1, h2, h3⟩
        have g : (x :: E).getLast?.getD e = E.getLast?.getD x := by
          cases E with
          | nil => rfl
          | cons y E => rw [List.getLast?_cons_cons, List.getLast?_cons]; rfl
        have := ih x h3
        rw [g]; omega
    rw [segs, List.flatten_cons, segs_flat V E e h3, g, cut_cat V b e _ (by omega) (hle E e h3)]
theorem ends_lastN (V : List (Option Int)) (hn : V.length ≤ 64) : (ends V).getLast?.getD 0 = V.length := by
  have l := ends_last V 100 V.length [] (Nat.le_refl _) (by omega)
  rw [if_pos rfl] at l
  exact l
theorem parts_flat (V : List (Option Int)) (hn : V.length ≤ 64) : (parts V).flatten = V := by
  unfold parts
  rw [segs_flat V (ends V) 0 (ends_ok V hn).1, ends_lastN V hn]
  unfold cut
  rw [List.drop_zero, Nat.sub_zero, List.take_length]
end VL

set_option Elab.async false
set_option linter.all false
set_option maxRecDepth 100000
set_option maxHeartbeats 1000000
namespace VL
open PySem PySem.Spec PyProof.Rows L2
/-! ### what is a question -/
abbrev rec3 : List Dt := [.str "not", .str "both", .str "either"]
abbrev recD : List Dt → R Dt := dTup (aCons (dC (.str "not")) (aCons (dC (.str "both")) (aCons (dC (.str "either")) aNil)))
theorem slice1 {f : List Dt → R Dt} {ρ l : List Dt} {a : Dt} (h : f ρ = rok (.tup (a :: l))) : dSl sliceF f (oSome (dC (.int 1))) oNone ρ = rok (.tup l) := by
  have e : (oSome (dC (.int 1))) ρ = rok (some ((1 : Nat) : Int)) := rfl
  simp only [ev_Sl, h, e, ev_oNone, rbind_ok]
  show (if ¬ (HT.sIx (a :: l).length 0 (some ((1 : Nat) : Int)) = 0 ∧ HT.sIx (a :: l).length (a :: l).length none = (a :: l).length) then rok (Dt.tup (cutD (a :: l) (some ((1 : Nat) : Int)) none)) else none) = _
  have hs : HT.sIx (a :: l).length 0 (some ((1 : Nat) : Int)) = 1 := by rw [HT.sIx_nat, List.length_cons]; omega
  rw [if_pos (by rw [hs]; omega)]
  unfold cutD
  rw [hs, HT.sIx_none, List.drop_succ_cons, List.drop_zero, List.length_cons, List.take_of_length_le (by omega)]
theorem isSome_flat (w : Str) : (isFlat (.str w) && rec3.all isFlat) = true := rfl
def szW (w : Str) (r : Dt) : Prop := dGetW tbl_SIZES (.str w) = rok r
theorem szW_of (w : Str) (r : Option Int) (h : (tbl_SIZES.find? fun q => decide (q.1 = w)).map (·.2) = some r) : szW w (OI r) := by
  show (match tbl_SIZES.find? fun q => decide (q.1 = w) with
    | some (_, some i) => (rok (Dt.int i) : R Dt)
    | some (_, none) => rok .non
    | none => none) = _
  revert h
  cases tbl_SIZES.find? fun q => decide (q.1 = w) with
  | none => intro h; cases h
  | some p =>
    obtain ⟨a, o⟩ := p
    intro h
    injection h with h
    subst h
    cases o <;> rfl
theorem ix0 (w : Str) (l ρ : List Dt) : d2 dIx (dVar 0) (dC (.int 0)) (.tup (.str w :: l) :: ρ) = rok (.str w) := by
  have := atI_nat (Dt.str w :: l) 0
  show (atI (Dt.str w :: l) ((0 : Nat) : Int)).map Except.ok = _
  rw [this]
  rfl
abbrev lkTest : List Dt → R Bool := pOr (dT (d2 dGt (dVar 1) (dC (.int 6)))) (dT (d2 dNe (d1 (dGetW tbl_SIZES) (d2 dIx (dVar 0) (dC (.int 0)))) (dCall (one bLen) (aCons (dVar 0) aNil))))
theorem lk_test (w : Str) (l : List Dt) (k : Nat) (hk : k ≤ 6) (r : Dt) (hs : szW w r) (b : Bool) (hb : dNe r (.int ((l.length + 1 : Nat) : Int)) = rok (.bl b)) (y : Dt) : lkTest [.tup (.str w :: l), .int (k : Int), y] = rok b := by
  have t1 : dT (d2 dGt (dVar 1) (dC (.int 6))) [.tup (.str w :: l), .int (k : Int), y] = rok false := by
    refine t_to (Eq.trans (d2_to rfl rfl) ?_)
    rw [ev_gt, decide_eq_false (by omega)]
  have t3 : dCall (one bLen) (aCons (dVar 0) aNil) [.tup (.str w :: l), .int (k : Int), y] = rok (Dt.int ((l.length + 1 : Nat) : Int)) := by
    refine Eq.trans (call_1 rfl) ?_
    show rok (Dt.int ((Dt.str w :: l).length : Int)) = _
    rw [List.length_cons]
  exact Eq.trans (or_f t1) (t_to (Eq.trans (d2_to (Eq.trans (d1_to (ix0 w l _)) hs) t3) hb))
theorem lk_deep (f : Nat) (x : Dt) (k : Nat) (hk : 7 ≤ k) : den_look_question (f + 1) [x, .int (k : Int)] = some (.error 5) := by
  have t1 : dT (d2 dGt (dVar 1) (dC (.int 6))) [x, .int (k : Int), .non] = rok true := by
    refine t_to (Eq.trans (d2_to rfl rfl) ?_)
    rw [ev_gt, decide_eq_true (by omega)]
  exact fn_er (seq_er (Eq.trans (ifS_t (or_t t1)) rfl))
theorem lk_size (f : Nat) (w : Str) (l : List Dt) (k : Nat) (hk : k ≤ 6) (r : Dt) (hs : szW w r) (hb : dNe r (.int ((l.length + 1 : Nat) : Int)) = rok (.bl true)) : den_look_question (f + 1) [.tup (.str w :: l), .int (k : Int)] = some (.error 5) :=
  fn_er (seq_er (Eq.trans (ifS_t (lk_test w l k hk r hs true hb _)) rfl))
theorem lk_leaf (f : Nat) (w : Str) (l : List Dt) (k : Nat) (hk : k ≤ 6) (r : Dt) (hs : szW w r) (hb : dNe r (.int ((l.length + 1 : Nat) : Int)) = rok (.bl false)) (hr : mem rec3 (.str w) = false) : den_look_question (f + 1) [.tup (.str w :: l), .int (k : Int)] = rok .non :=
  fn_nx (Eq.trans (skip (lk_test w l k hk r hs false hb _)) (Eq.trans (ifS_f (in_to (f := d2 dIx (dVar 0) (dC (.int 0))) (g := recD) (a := .str w) (l := rec3) false (ix0 w l _) rfl rfl hr)) rfl))
abbrev lkBody (f : Nat) : List Dt → R Fl := dDrop (dCall (den_look_question f) (aCons (dVar 2) (aCons (d2 dAdd (dVar 1) (dC (.int 1))) aNil)))
theorem lk_for (f : Nat) (d : Dt) (k : Nat) : ∀ (l : List Dt) (y : Dt), (∀ x ∈ l, den_look_question f [x, .int ((k + 1 : Nat) : Int)] = rok .non) → ∃ y', dForL (setN 2) (lkBody f) l [d, .int (k : Int), y] = rok (.nx [d, .int (k : Int), y'])
  | [], y, _ => ⟨y, rfl⟩
  | x :: l, y, h => by
    have s : lkBody f [d, .int (k : Int), x] = rok (.nx [d, .int (k : Int), x]) := drop_to (Eq.trans (call_2 rfl (Eq.trans (d2_to rfl rfl) (ev_add _ _))) (h x List.mem_cons_self))
    obtain ⟨y', ih⟩ := lk_for f d k l x fun z hz => h z (List.mem_cons_of_mem _ hz)
    refine ⟨y', ?_⟩
    rw [dForL]
    show rbind (lkBody f [d, .int (k : Int), x]) _ = _
    rw [s, rbind_ok]
    exact ih
theorem lk_for_bad (f : Nat) (d : Dt) (k : Nat) : ∀ (l : List Dt) (y : Dt), (∀ x ∈ l, den_look_question f [x, .int ((k + 1 : Nat) : Int)] = rok .non ∨ den_look_question f [x, .int ((k + 1 : Nat) : Int)] = some (.error 5)) → (∃ x ∈ l, den_look_question f [x, .int ((k + 1 : Nat) : Int)] = some (.error 5)) → dForL (setN 2) (lkBody f) l [d, .int (k : Int), y] = some (.error 5)
  | [], y, _, ⟨x, hx, _⟩ => by simp at hx
  | x :: l, y, h, ⟨z, hz, ez⟩ => by
    rw [dForL]
    show rbind (lkBody f [d, .int (k : Int), x]) _ = _
    rcases h x List.mem_cons_self with e | e
    · have s : lkBody f [d, .int (k : Int), x] = rok (.nx [d, .int (k : Int), x]) := drop_to (Eq.trans (call_2 rfl (Eq.trans (d2_to rfl rfl) (ev_add _ _))) e)
      rw [s, rbind_ok]
      refine lk_for_bad f d k l x (fun u hu => h u (List.mem_cons_of_mem _ hu)) ⟨z, ?_, ez⟩
      rcases List.mem_cons.mp hz with rfl | hz
      · rw [e] at ez; cases ez
      · exact hz
    · have s : lkBody f [d, .int (k : Int), x] = some (.error 5) := drop_er (Eq.trans (call_2 rfl (Eq.trans (d2_to rfl rfl) (ev_add _ _))) e)
      rw [s]
      rfl
theorem lk_head (f : Nat) (w : Str) (l : List Dt) (k : Nat) (hk : k ≤ 6) (r : Dt) (hs : szW w r) (hb : dNe r (.int ((l.length + 1 : Nat) : Int)) = rok (.bl false)) (hr : mem rec3 (.str w) = true) (s : List Dt → R Fl) (y : Dt) :
    (dSeq (dIfS lkTest (dRaise 5) dNext) (dIfS (dT (d2 dIn (d2 dIx (dVar 0) (dC (.int 0))) recD)) (dFor (iTup (dSl sliceF (dVar 0) (oSome (dC (.int 1))) oNone)) (setN 2) s) dNext)) [.tup (.str w :: l), .int (k : Int), y] = dForL (setN 2) s l [.tup (.str w :: l), .int (k : Int), y] :=
  Eq.trans (skip (lk_test w l k hk r hs false hb _)) (Eq.trans (ifS_t (in_to (f := d2 dIx (dVar 0) (dC (.int 0))) (g := recD) (a := .str w) (l := rec3) true (ix0 w l _) rfl rfl hr)) (for_to (ev_iTup _ _ _ (slice1 rfl))))
theorem lk_rec (f : Nat) (w : Str) (l : List Dt) (k : Nat) (hk : k ≤ 6) (r : Dt) (hs : szW w r) (hb : dNe r (.int ((l.length + 1 : Nat) : Int)) = rok (.bl false)) (hr : mem rec3 (.str w) = true) (h : ∀ x ∈ l, den_look_question f [x, .int ((k + 1 : Nat) : Int)] = rok .non) : den_look_question (f + 1) [.tup (.str w :: l), .int (k : Int)] = rok .non := by
  obtain ⟨y', e⟩ := lk_for f (.tup (.str w :: l)) k l .non h
  exact fn_nx (Eq.trans (lk_head f w l k hk r hs hb hr (lkBody f) .non) e)
theorem lk_rec_bad (f : Nat) (w : Str) (l : List Dt) (k : Nat) (hk : k ≤ 6) (r : Dt) (hs : szW w r) (hb : dNe r (.int ((l.length + 1 : Nat) : Int)) = rok (.bl false)) (hr : mem rec3 (.str w) = true) (h : ∀ x ∈ l, den_look_question f [x, .int ((k + 1 : Nat) : Int)] = rok .non ∨ den_look_question f [x, .int ((k + 1 : Nat) : Int)] = some (.error 5)) (hx : ∃ x ∈ l, den_look_question f [x, .int ((k + 1 : Nat) : Int)] = some (.error 5)) : den_look_question (f + 1) [.tup (.str w :: l), .int (k : Int)] = some (.error 5) :=
  fn_er (Eq.trans (lk_head f w l k hk r hs hb hr (lkBody f) .non) (lk_for_bad f (.tup (.str w :: l)) k l .non h hx))
theorem sz1 : szW "all" (.int 1) := szW_of "all" (some 1) (by decide +kernel)
theorem sz2 : szW "none" (.int 1) := szW_of "none" (some 1) (by decide +kernel)
theorem sz3 : szW "is" (.int 2) := szW_of "is" (some 2) (by decide +kernel)
theorem sz4 : szW "below" (.int 2) := szW_of "below" (some 2) (by decide +kernel)
theorem sz5 : szW "above" (.int 2) := szW_of "above" (some 2) (by decide +kernel)
theorem sz6 : szW "among" (.int 2) := szW_of "among" (some 2) (by decide +kernel)
theorem sz7 : szW "not" (.int 2) := szW_of "not" (some 2) (by decide +kernel)
theorem sz8 : szW "both" (.int 3) := szW_of "both" (some 3) (by decide +kernel)
theorem sz9 : szW "either" (.int 3) := szW_of "either" (some 3) (by decide +kernel)
theorem lookq_ok : ∀ (f : Nat) (q : Qn) (k : Nat), dep q ≤ f → dep q + k ≤ 7 → den_look_question f [qd q, .int (k : Int)] = rok .non
  | 0, q, k, h, _ => absurd (dep_pos q) (by omega)
  | f + 1, .all, k, _, h => lk_leaf f "all" [] k (by have : 1 + k ≤ 7 := h; omega) _ sz1 (ev_neI _ _) (by decide +kernel)
  | f + 1, .none, k, _, h => lk_leaf f "none" [] k (by have : 1 + k ≤ 7 := h; omega) _ sz2 (ev_neI _ _) (by decide +kernel)
  | f + 1, .is v, k, _, h => lk_leaf f "is" [.int v] k (by have : 1 + k ≤ 7 := h; omega) _ sz3 (ev_neI _ _) (by decide +kernel)
  | f + 1, .lt v, k, _, h => lk_leaf f "below" [.int v] k (by have : 1 + k ≤ 7 := h; omega) _ sz4 (ev_neI _ _) (by decide +kernel)
  | f + 1, .gt v, k, _, h => lk_leaf f "above" [.int v] k (by have : 1 + k ≤ 7 := h; omega) _ sz5 (ev_neI _ _) (by decide +kernel)
  | f + 1, .among l, k, _, h => lk_leaf f "among" [LI l] k (by have : 1 + k ≤ 7 := h; omega) _ sz6 (ev_neI _ _) (by decide +kernel)
  | f + 1, .nt q, k, h0, h => by
    have h0 : dep q + 1 ≤ f + 1 := h0
    have h : dep q + 1 + k ≤ 7 := h
    have := dep_pos q
    exact lk_rec f "not" [qd q] k (by omega) _ sz7 (ev_neI _ _) (by decide +kernel) (by
      intro x hx
      rw [List.mem_singleton.mp hx]
      exact lookq_ok f q (k + 1) (by omega) (by omega))
  | f + 1, .both q r, k, h0, h => by
    have h0 : max (dep q) (dep r) + 1 ≤ f + 1 := h0
    have h : max (dep q) (dep r) + 1 + k ≤ 7 := h
    have := dep_pos q
    exact lk_rec f "both" [qd q, qd r] k (by omega) _ sz8 (ev_neI _ _) (by decide +kernel) (by
      intro x hx
      rcases List.mem_cons.mp hx with rfl | hx
      · exact lookq_ok f q (k + 1) (by omega) (by omega)
      · rw [List.mem_singleton.mp hx]
        exact lookq_ok f r (k + 1) (by omega) (by omega))
  | f + 1, .either q r, k, h0, h => by
    have h0 : max (dep q) (dep r) + 1 ≤ f + 1 := h0
    have h : max (dep q) (dep r) + 1 + k ≤ 7 := h
    have := dep_pos q
    exact lk_rec f "either" [qd q, qd r] k (by omega) _ sz9 (ev_neI _ _) (by decide +kernel) (by
      intro x hx
      rcases List.mem_cons.mp hx with rfl | hx
      · exact lookq_ok f q (k + 1) (by omega) (by omega)
      · rw [List.mem_singleton.mp hx]
        exact lookq_ok f r (k + 1) (by omega) (by omega))
end VL

set_option Elab.async false
set_option linter.all false
set_option maxRecDepth 100000
set_option maxHeartbeats 1000000
namespace VL
open PySem PySem.Spec PyProof.Rows L2
/-! ### what a column tells of a question -/
def idxs (q : Qn) (L : List (Option Int)) : List Nat := (List.range L.length).filter fun i => hB q ((L[i]?).join)
theorem idxs_app (q : Qn) (A X : List (Option Int)) : idxs q (A ++ X) = idxs q A ++ (idxs q X).map (A.length + ·) := by
  unfold idxs
  rw [List.length_append, List.range_add, List.filter_append, List.filter_map]
  congr 1
  · refine List.filter_congr fun i hi => ?_
    rw [List.getElem?_append_left (List.mem_range.mp hi)]
  · congr 1
    refine List.filter_congr fun i hi => ?_
    show hB q (((A ++ X)[A.length + i]?).join) = _
    rw [List.getElem?_append_right (by omega), Nat.add_sub_cancel_left]
abbrev ansD : List Dt → R Dt := dAlt 4 0 (dMeth 0 den_Plain_answers (dVar 4) (aCons (dVar 1) aNil)) (dAlt 4 1 (dMeth 1 den_Runs_answers (dVar 4) (aCons (dVar 1) aNil)) (dMeth 2 den_Book_answers (dVar 4) (aCons (dVar 1) aNil)))
abbrev long4 : List Dt → R Dt := dAlt 4 0 (d1 (gAttr 0 1) (dVar 4)) (dAlt 4 1 (d1 (gAttr 1 1) (dVar 4)) (d1 (gAttr 2 1) (dVar 4)))
abbrev rowsB : List Dt → R Fl := dSeq (dSet 5 ansD) (dSeq (dExtend 2 (dComp (iRng (aCons long4 aNil) rng1) (setN 6) (dTr (d2 dIx (dVar 5) (dVar 6))) (d2 dAdd (dVar 3) (dVar 6)))) (dSet 3 (d2 dAdd (dVar 3) long4)))
theorem rows_step (q : Qn) (hq : dep q ≤ 12) (c : Dt) (A X : List (Option Int)) (b : Dt) (k : Str) (hb : Blk b k X) (hl : A.length + X.length ≤ 1000) (y z : Dt) :
    rowsB [c, qd q, LN (idxs q A), .int (A.length : Int), b, y, z] = rok (.nx [c, qd q, LN (idxs q (A ++ X)), .int ((A ++ X).length : Int), b, LB (X.map (hB q)), z]) := by
  obtain ⟨cc, l, rfl, hc, h0, h1⟩ := hb.at0
  have lg : ∀ u v w : Dt, long4 [c, qd q, u, v, .obj cc l, w, z] = rok (.int (X.length : Int)) := fun u v w => alt_attr rfl hc h1
  have cm := comp_map (it := iRng (aCons long4 aNil) rng1) (set := setN 6) (p := dTr (d2 dIx (dVar 5) (dVar 6))) (f := d2 dAdd (dVar 3) (dVar 6)) (ρ := [c, qd q, LN (idxs q A), .int (A.length : Int), .obj cc l, LB (X.map (hB q)), z]) (fun i : Nat => Dt.int (0 + (i : Int))) (fun i => hB q ((X[i]?).join)) (fun i : Nat => Dt.int ((A.length + i : Nat) : Int)) (List.range X.length) (by
    rw [iRng1_to (a := (X.length : Int)) (lg _ _ _) (by omega), rng_eq, Int.toNat_natCast]) (by rw [List.length_range]; omega) (by
    intro i hi
    have hi := List.mem_range.mp hi
    have e0 : (0 : Int) + (i : Int) = (i : Int) := by omega
    refine ⟨[c, qd q, LN (idxs q A), .int (A.length : Int), .obj cc l, LB (X.map (hB q)), .int (i : Int)], by rw [e0]; rfl, ?_, fun _ => ?_⟩
    · refine Eq.trans (tr_to (Eq.trans (d2_to rfl rfl) (at_B _ i (hB q ((X[i]?).join)) ?_))) rfl
      rw [List.getElem?_map, List.getElem?_eq_getElem hi]; rfl
    · refine Eq.trans (d2_to (a := .int (A.length : Int)) (b := .int (i : Int)) rfl rfl) ?_
      rw [ev_add]
      have : (A.length : Int) + (i : Int) = ((A.length + i : Nat) : Int) := by omega
      rw [this])
  have e1 : ((List.range X.length).filter fun i => hB q ((X[i]?).join)).map (fun i : Nat => Dt.int ((A.length + i : Nat) : Int)) = ((idxs q X).map (A.length + ·)).map fun n : Nat => Dt.int (n : Int) := by
    rw [List.map_map]; rfl
  rw [e1] at cm
  have hlA : (idxs q A).length ≤ A.length := by
    unfold idxs
    have := List.length_filter_le (fun i => hB q ((A[i]?).join)) (List.range A.length)
    rw [List.length_range] at this
    exact this
  have hlX : (idxs q X).length ≤ X.length := by
    unfold idxs
    have := List.length_filter_le (fun i => hB q ((X[i]?).join)) (List.range X.length)
    rw [List.length_range] at this
    exact this
  have hb2 : ((idxs q A).map fun n : Nat => Dt.int (n : Int)).length + (((idxs q X).map (A.length + ·)).map fun n : Nat => Dt.int (n : Int)).length ≤ 16777216 := by
    rw [List.length_map, List.length_map, List.length_map]; omega
  have x := ext_to (i := 2) (f := dComp (iRng (aCons long4 aNil) rng1) (setN 6) (dTr (d2 dIx (dVar 5) (dVar 6))) (d2 dAdd (dVar 3) (dVar 6))) (ρ := [c, qd q, LN (idxs q A), .int (A.length : Int), .obj cc l, LB (X.map (hB q)), z]) (l := (idxs q A).map fun n : Nat => Dt.int (n : Int)) (m := ((idxs q X).map (A.length + ·)).map fun n : Nat => Dt.int (n : Int)) cm rfl hb2
  have e2 : LN (idxs q (A ++ X)) = .lst (((idxs q A).map fun n : Nat => Dt.int (n : Int)) ++ ((idxs q X).map (A.length + ·)).map fun n : Nat => Dt.int (n : Int)) := by
    rw [idxs_app]; exact congrArg Dt.lst List.map_append
  refine Eq.trans (seq_nx (set_to (Eq.trans (alt_meth (ds := [qd q]) rfl rfl) (hb.ans q hq)))) (Eq.trans (seq_nx x) (Eq.trans (set_to (Eq.trans (d2_to (a := .int (A.length : Int)) rfl (lg _ _ _)) (ev_add _ _))) ?_))
  rw [e2, List.length_append]
  have : ((A.length + X.length : Nat) : Int) = (A.length : Int) + (X.length : Int) := by omega
  rw [this]
  rfl
theorem look1 (q : Qn) (hq : dep q ≤ 6) (ρ : List Dt) (c : Dt) : dDrop (dCall (den_look_question 8) (aCons (dVar 1) (aCons (dC (.int 1)) aNil))) (c :: qd q :: ρ) = rok (.nx (c :: qd q :: ρ)) :=
  drop_to (Eq.trans (call_2 rfl rfl) (lookq_ok 8 q 1 (by omega) (by omega)))
theorem flatN (l : List Nat) : (l.map fun n : Nat => Dt.int (n : Int)).all isFlat = true := by
  rw [List.all_map]; simp [Function.comp_def, isFlat]
theorem pre_len {P pre post : List (List (Option Int))} {X : List (Option Int)} (e : P = pre ++ X :: post) : pre.flatten.length + X.length ≤ P.flatten.length := by
  rw [e, List.flatten_append, List.flatten_cons, List.length_append, List.length_append]
  omega
theorem rows_ok (V : List (Option Int)) (hV : ∀ o ∈ V, okV o) (hn : V.length ≤ 64) (q : Qn) (hq : dep q ≤ 6) : den_Column_rows [colO V, qd q] = rok (LN (idxs q V)) := by
  obtain ⟨ρ', h1, x, y, z, h3⟩ := forL_inv (set := setN 4) (s := rowsB) bo (fun pre ρ => ∃ x y z, ρ = [colO V, qd q, LN (idxs q pre.flatten), .int (pre.flatten.length : Int), x, y, z]) (parts V) [] [colO V, qd q, .lst [], .int 0, .non, .non, .non] ⟨_, _, _, rfl⟩ (by
    rintro pre X post ρ e ⟨x, y, z, rfl⟩
    rw [List.nil_append] at e
    have hX : X ∈ parts V := by rw [e]; simp
    have hpl := pre_len e
    rw [parts_flat V hn] at hpl
    obtain ⟨_, _, _, hb, _⟩ := parts_ok V hV hn X hX
    have s := rows_step q (by omega) (colO V) pre.flatten X (bo X) _ hb (by omega) y z
    refine ⟨[colO V, qd q, LN (idxs q pre.flatten), .int (pre.flatten.length : Int), bo X, y, z], _, rfl, s, bo X, LB (X.map (hB q)), z, ?_⟩
    rw [List.flatten_append, List.flatten_singleton])
  subst h3
  rw [List.nil_append, parts_flat V hn] at h1
  exact fn_rt (Eq.trans (seq_nx (look1 q hq _ _)) (Eq.trans (seq_nx (set_to rfl)) (Eq.trans (seq_nx (set_to rfl)) (Eq.trans (seq_nx (Eq.trans (for_to (lst_to (Eq.trans (d1_to (a := colO V) rfl) rfl))) h1)) (ret_to rfl (flatN _))))))
theorem TOk.app {q : Qn} {T T' : List Run} {A X : List (Option Int)} (h : TOk q T A) (h' : TOk q T' X) : TOk q (T ++ T') (A ++ X) where
  sum := fun φ => by rw [List.map_append, List.sum_append, List.filter_append, List.map_append, List.sum_append, h.sum, h'.sum]
  mem := fun v => by rw [List.map_append, List.mem_append, List.filter_append, List.mem_append, h.mem, h'.mem]
  len := by rw [List.length_append, List.length_append]; have := h.len; have := h'.len; omega
abbrev talD : List Dt → R Dt := dAlt 3 0 (dMeth 0 den_Plain_tallies (dVar 3) (aCons (dVar 1) aNil)) (dAlt 3 1 (dMeth 1 den_Runs_tallies (dVar 3) (aCons (dVar 1) aNil)) (dMeth 2 den_Book_tallies (dVar 3) (aCons (dVar 1) aNil)))
theorem tallies_ok (V : List (Option Int)) (hV : ∀ o ∈ V, okV o) (hn : V.length ≤ 64) (q : Qn) (hq : dep q ≤ 6) : ∃ T, den_Column_tallies [colO V, qd q] = rok (.lst (T.map runT)) ∧ TOk q T V := by
  obtain ⟨ρ', h1, T, y, h3, h4⟩ := forL_inv (set := setN 3) (s := dExtend 2 talD) bo (fun pre ρ => ∃ T y, ρ = [colO V, qd q, .lst (T.map runT), y] ∧ TOk q T pre.flatten) (parts V) [] [colO V, qd q, .lst [], .non] ⟨[], _, rfl, ⟨fun φ => rfl, fun v => by simp, Nat.le_refl _⟩⟩ (by
    rintro pre X post ρ e ⟨T, y, rfl, hT⟩
    rw [List.nil_append] at e
    have hX : X ∈ parts V := by rw [e]; simp
    have hpl := pre_len e
    rw [parts_flat V hn] at hpl
    obtain ⟨_, _, _, hb, _⟩ := parts_ok V hV hn X hX
    obtain ⟨T', hT', hk⟩ := hb.tal q (by omega)
    have a := hT.len
    have b := hk.len
    have x := ext_to (i := 2) (f := talD) (ρ := [colO V, qd q, .lst (T.map runT), bo X]) (l := T.map runT) (m := T'.map runT) (Eq.trans (alt_meth (ds := [qd q]) rfl rfl) hT') rfl (by rw [List.length_map, List.length_map]; omega)
    refine ⟨[colO V, qd q, .lst (T.map runT), bo X], _, rfl, x, T ++ T', bo X, ?_, ?_⟩
    · rw [List.map_append]; rfl
    · rw [List.flatten_append, List.flatten_singleton]; exact hT.app hk)
  subst h3
  rw [List.nil_append, parts_flat V hn] at h4
  exact ⟨T, fn_rt (Eq.trans (seq_nx (look1 q hq _ _)) (Eq.trans (seq_nx (set_to rfl)) (Eq.trans (seq_nx (Eq.trans (for_to (lst_to (Eq.trans (d1_to (a := colO V) rfl) rfl))) h1)) (ret_to rfl rfl)))), h4⟩
theorem many_ok (V : List (Option Int)) (hV : ∀ o ∈ V, okV o) (hn : V.length ≤ 64) (q : Qn) (hq : dep q ≤ 6) : den_Column_how_many [colO V, qd q] = rok (.int ((V.filter (hB q)).length : Int)) := by
  obtain ⟨T, hT, hk⟩ := tallies_ok V hV hn q hq
  have a := hk.len
  have c := comp_map (it := iLst (dMeth 3 den_Column_tallies (dVar 0) (aCons (dVar 1) aNil))) (set := setT2 2 3) (p := pYes) (f := dVar 3) (ρ := [colO V, qd q, .non, .non]) runT (fun _ => true) (fun p => Dt.int (p.2 : Int)) T (lst_to (Eq.trans (meth_to (c := 3) (ds := [qd q]) rfl rfl) hT)) (by omega) (fun p _ => ⟨[colO V, qd q, OI p.1, .int (p.2 : Int)], rfl, rfl, fun _ => rfl⟩)
  rw [filterT] at c
  have e : T.map (fun p : Run => Dt.int (p.2 : Int)) = (T.map fun p : Run => (p.2 : Int)).map Dt.int := by rw [List.map_map]; rfl
  rw [e] at c
  have s := hk.sum fun _ => 1
  have e1 : (T.map fun p : Run => (1 : Int) * (p.2 : Int)) = T.map fun p : Run => (p.2 : Int) := List.map_congr_left fun p _ => by omega
  rw [e1] at s
  have e2 : ∀ L : List (Option Int), (L.map fun _ => (1 : Int)).sum = (L.length : Int) := by
    intro L
    induction L with
    | nil => rfl
    | cons x L ih => rw [List.map_cons, List.sum_cons, ih, List.length_cons]; omega
  rw [e2] at s
  exact fn_rt (ret_to (Eq.trans (call_1 c) (Eq.trans (bSum_to _) (by rw [s]))) rfl)
def sumO (L : List (Option Int)) : Int := (L.map fun o => o.getD 0).sum
theorem total_ok (V : List (Option Int)) (hV : ∀ o ∈ V, okV o) (hn : V.length ≤ 64) (q : Qn) (hq : dep q ≤ 6) : den_Column_total [colO V, qd q] = rok (.int (sumO (V.filter (hB q)))) := by
  obtain ⟨T, hT, hk⟩ := tallies_ok V hV hn q hq
  have a := hk.len
  have c := comp_map (it := iLst (dMeth 3 den_Column_tallies (dVar 0) (aCons (dVar 1) aNil))) (set := setT2 2 3) (p := dT (d2 dNotN (dVar 2) (dC .non))) (f := d2 dMul (dVar 2) (dVar 3)) (ρ := [colO V, qd q, .non, .non]) runT (fun p => !p.1.isNone) (fun p => Dt.int (p.1.getD 0 * (p.2 : Int))) T (lst_to (Eq.trans (meth_to (c := 3) (ds := [qd q]) rfl rfl) hT)) (by omega) (by
    rintro ⟨o, n⟩ hp
    refine ⟨[colO V, qd q, OI o, .int (n : Int)], rfl, ?_, fun h => ?_⟩
    · refine t_to (Eq.trans (d2_to rfl rfl) ?_)
      rw [ev_notN, isNon_OI]
    · cases o with
      | none => cases h
      | some x =>
        have hm := (List.mem_filter.mp ((hk.mem (some x)).mp (List.mem_map.mpr ⟨_, hp, rfl⟩))).1
        have := hV _ hm x rfl
        exact Eq.trans (d2_to (a := .int x) rfl rfl) (ev_mulL _ _ (by omega)))
  have e : ((T.filter fun p => !p.1.isNone).map fun p : Run => Dt.int (p.1.getD 0 * (p.2 : Int))) = ((T.filter fun p => !p.1.isNone).map fun p : Run => p.1.getD 0 * (p.2 : Int)).map Dt.int := by rw [List.map_map]; rfl
  rw [e] at c
  have e1 : ∀ T : List Run, ((T.filter fun p => !p.1.isNone).map fun p : Run => p.1.getD 0 * (p.2 : Int)).sum = (T.map fun p : Run => p.1.getD 0 * (p.2 : Int)).sum := by
    intro T
    induction T with
    | nil => rfl
    | cons p T ih =>
      obtain ⟨o, n⟩ := p
      rw [List.filter_cons, List.map_cons, List.sum_cons, ← ih]
      cases o with
      | none => simp
      | some x => rfl
  have s := hk.sum fun o => o.getD 0
  refine fn_rt (ret_to (Eq.trans (call_1 c) (Eq.trans (bSum_to _) ?_)) rfl)
  rw [e1, s]
  rfl
theorem maxI_set {A B : List Int} (ha : A ≠ []) (h : ∀ x, x ∈ A ↔ x ∈ B) : maxI A = maxI B := by
  have hb : B ≠ [] := by
    obtain ⟨x, hx⟩ := List.exists_mem_of_ne_nil _ ha
    intro e
    have := (h x).mp hx
    rw [e] at this; simp at this
  have h1 := max_mem A ha
  have h2 := max_mem B hb
  have := h1.2 _ ((h _).mpr h2.1)
  have := h2.2 _ ((h _).mp h1.1)
  omega
theorem minI_set {A B : List Int} (ha : A ≠ []) (h : ∀ x, x ∈ A ↔ x ∈ B) : minI A = minI B := by
  have hb : B ≠ [] := by
    obtain ⟨x, hx⟩ := List.exists_mem_of_ne_nil _ ha
    intro e
    have := (h x).mp hx
    rw [e] at this; simp at this
  have h1 := min_mem A ha
  have h2 := min_mem B hb
  have := h1.2 _ ((h _).mpr h2.1)
  have := h2.2 _ ((h _).mp h1.1)
  omega
def endsO (L : List Int) : Dt := if L.isEmpty = true then .non else .tup [.int (minI L), .int (maxI L)]
theorem ends_q_ok (V : List (Option Int)) (hV : ∀ o ∈ V, okV o) (hn : V.length ≤ 64) (q : Qn) (hq : dep q ≤ 6) : den_Column_ends [colO V, qd q] = rok (endsO (nums (V.filter (hB q)))) := by
  obtain ⟨T, hT, hk⟩ := tallies_ok V hV hn q hq
  have a := hk.len
  have c := comp_map (it := iLst (dMeth 3 den_Column_tallies (dVar 0) (aCons (dVar 1) aNil))) (set := setT2 3 4) (p := dT (d2 dNotN (dVar 3) (dC .non))) (f := dVar 3) (ρ := [colO V, qd q, .non, .non, .non]) runT (fun p => !p.1.isNone) (fun p => OI p.1) T (lst_to (Eq.trans (meth_to (c := 3) (ds := [qd q]) rfl rfl) hT)) (by omega) (by
    rintro ⟨o, n⟩ hp
    refine ⟨[colO V, qd q, .non, OI o, .int (n : Int)], rfl, ?_, fun h => rfl⟩
    refine t_to (Eq.trans (d2_to rfl rfl) ?_)
    rw [ev_notN, isNon_OI])
  have e : ((T.filter fun p => !p.1.isNone).map fun p : Run => OI p.1) = (nums (T.map (·.1))).map Dt.int := by
    rw [← pick_nums, List.filter_map, List.map_map]
    rfl
  rw [e] at c
  have hs : ∀ x, x ∈ nums (T.map (·.1)) ↔ x ∈ nums (V.filter (hB q)) := fun x => by rw [nums_mem, nums_mem, hk.mem]
  refine fn_rt (Eq.trans (seq_nx (set_to c)) (ret_to ?_ rfl))
  unfold endsO
  by_cases z : nums (T.map (·.1)) = []
  · have z2 : nums (V.filter (hB q)) = [] := List.eq_nil_iff_forall_not_mem.mpr fun x hx => by
      have := (hs x).mpr hx
      rw [z] at this; simp at this
    rw [z, z2]
    exact Eq.trans (if_f rfl) rfl
  · have z2 : ¬ (nums (V.filter (hB q))).isEmpty = true := fun e => by
      obtain ⟨x, hx⟩ := List.exists_mem_of_ne_nil _ z
      have := (hs x).mp hx
      rw [List.isEmpty_iff.mp e] at this; simp at this
    rw [if_neg z2]
    have t : dTr (dVar 2) [colO V, qd q, LI (nums (T.map (·.1))), .non, .non] = rok true := by
      refine Eq.trans (tr_to rfl) ?_
      rw [ev_truL]
      cases w : nums (T.map (·.1)) with
      | nil => exact absurd w z
      | cons x xs => rfl
    refine Eq.trans (if_t t) (Eq.trans (tup2_to (Eq.trans (call_1 rfl) (bMinL_to _ z)) (Eq.trans (call_1 rfl) (bMaxL_to _ z))) ?_)
    rw [minI_set z hs, maxI_set z hs]
end VL

set_option Elab.async false
set_option linter.all false
set_option maxRecDepth 100000
set_option maxHeartbeats 1000000
namespace VL
open PySem PySem.Spec PyProof.Rows L2
/-! ### a value is equal to itself -/
mutual
theorem eqv_toPy : ∀ d : Dt, PyData.eqv (toPy d) (toPy d) = true
  | .non => by simp [toPy, PyData.eqv]
  | .bl _ => by simp [toPy, PyData.eqv]
  | .int _ => by simp [toPy, PyData.eqv]
  | .str _ => by simp [toPy, PyData.eqv]
  | .lst l => by simp [toPy, PyData.eqv, eqv_toPys l]
  | .tup l => by simp [toPy, PyData.eqv, eqv_toPys l]
  | .obj _ _ => by simp [toPy, PyData.eqv]
  | .scr _ => by simp [toPy, PyData.eqv]
  | .exc _ => by simp [toPy, PyData.eqv]
  | .dct _ _ => by simp [toPy, PyData.eqv]
theorem eqv_toPys : ∀ l : List Dt, PyData.eqvAll (toPys l) (toPys l) = true
  | [] => by simp [toPys, PyData.eqvAll]
  | d :: l => by simp [toPys, PyData.eqvAll, eqv_toPy d, eqv_toPys l]
end
theorem eq_same (d : Dt) (h : okN 8 d = true) : dEq d d = rok (.bl true) := by
  unfold dEq; rw [h, eqv_toPy]; rfl
theorem ne_same (d : Dt) (h : okN 8 d = true) : dNe d d = rok (.bl false) := by
  unfold dNe; rw [h, eqv_toPy]; rfl
theorem okN_lst {n : Nat} {l : List Dt} (h : ∀ d ∈ l, okN n d = true) : okN (n + 1) (.lst l) = true := by
  rw [okN, List.all_eq_true]; exact h
theorem okN_LN (n : Nat) (l : List Nat) : okN (n + 1) (LN l) = true := okN_lst fun d hd => by
  obtain ⟨k, _, rfl⟩ := List.mem_map.mp hd
  cases n <;> rfl
theorem tapp_to {f1 f2 : List Dt → R Dt} {ρ l : List Dt} {d : Dt} (h1 : f1 ρ = rok (.lst l)) (h2 : f2 ρ = rok d) (hl : l.length < 16777216) : dTApp f1 f2 ρ = rok (.nx ρ) := by
  unfold dTApp
  rw [h1, rbind_ok, ev_aCons, h2, rbind_ok, ev_aNil, rbind_ok, rbind_ok]
  exact if_pos hl
/-! ### what a column tells -/
abbrev lgA (k : Nat) : List Dt → R Dt := dAlt k 0 (d1 (gAttr 0 1) (dVar k)) (dAlt k 1 (d1 (gAttr 1 1) (dVar k)) (d1 (gAttr 2 1) (dVar k)))
abbrev kiA (k : Nat) : List Dt → R Dt := dAlt k 0 (d1 (gAttr 0 0) (dVar k)) (dAlt k 1 (d1 (gAttr 1 0) (dVar k)) (d1 (gAttr 2 0) (dVar k)))
abbrev vlA (k : Nat) : List Dt → R Dt := dAlt k 0 (dMeth 0 den_Plain_values_of (dVar k) aNil) (dAlt k 1 (dMeth 1 den_Runs_values_of (dVar k) aNil) (dMeth 2 den_Book_values_of (dVar k) aNil))
theorem blocks_it (V : List (Option Int)) (ρ : List Dt) : iLst (d1 (gAttr 3 0) (dVar 0)) (colO V :: ρ) = rok ((parts V).map bo) := lst_to (Eq.trans (d1_to (a := colO V) rfl) rfl)
theorem lg_to {i : Nat} {ρ : List Dt} {b : Dt} {k : Str} {X : List (Option Int)} (hb : Blk b k X) (h : ρ[i]? = some b) : lgA i ρ = rok (.int (X.length : Int)) := by
  obtain ⟨cc, l, rfl, hc, h0, h1⟩ := hb.at0
  exact alt_attr h hc h1
theorem ki_to {i : Nat} {ρ : List Dt} {b : Dt} {k : Str} {X : List (Option Int)} (hb : Blk b k X) (h : ρ[i]? = some b) : kiA i ρ = rok (.str k) := by
  obtain ⟨cc, l, rfl, hc, h0, h1⟩ := hb.at0
  exact alt_attr h hc h0
theorem vl_to {i : Nat} {ρ : List Dt} {b : Dt} {k : Str} {X : List (Option Int)} (hb : Blk b k X) (h : ρ[i]? = some b) : vlA i ρ = rok (LO X) := Eq.trans (alt_meth (ds := []) h rfl) hb.vals
section
variable (V : List (Option Int)) (hV : ∀ o ∈ V, okV o) (hn : V.length ≤ 64)
include hV hn
theorem told20 : den_Column_told [colO V] = rok (LO V) := by
  obtain ⟨ρ', h1, x, h3⟩ := forL_inv (set := setN 2) (s := dExtend 1 (vlA 2)) bo (fun pre ρ => ∃ x, ρ = [colO V, LO pre.flatten, x]) (parts V) [] [colO V, .lst [], .non] ⟨_, rfl⟩ (by
    rintro pre X post ρ e ⟨x, rfl⟩
    rw [List.nil_append] at e
    have hX : X ∈ parts V := by rw [e]; simp
    have hpl := pre_len e
    rw [parts_flat V hn] at hpl
    obtain ⟨_, _, _, hb, _⟩ := parts_ok V hV hn X hX
    have x := ext_to (i := 1) (f := vlA 2) (ρ := [colO V, LO pre.flatten, bo X]) (l := pre.flatten.map OI) (m := X.map OI) (vl_to hb rfl) rfl (by rw [List.length_map, List.length_map]; omega)
    refine ⟨[colO V, LO pre.flatten, bo X], _, rfl, x, bo X, ?_⟩
    have e2 : LO (pre.flatten ++ X) = .lst (pre.flatten.map OI ++ X.map OI) := congrArg Dt.lst List.map_append
    rw [List.flatten_append, List.flatten_singleton, e2]
    rfl)
  subst h3
  rw [List.nil_append, parts_flat V hn] at h1
  exact fn_rt (Eq.trans (seq_nx (set_to rfl)) (Eq.trans (seq_nx (Eq.trans (for_to (blocks_it V _)) h1)) (ret_to rfl (flat_OI V))))
theorem size20 : den_Column_size [colO V] = rok (.int (V.length : Int)) := by
  have c := comp_map (it := iLst (d1 (gAttr 3 0) (dVar 0))) (set := setN 1) (p := pYes) (f := lgA 1) (ρ := [colO V, .non]) bo (fun _ => true) (fun X => Dt.int (X.length : Int)) (parts V) (blocks_it V _) (by have := parts_len V hn; omega) (fun X hX => by
    obtain ⟨_, _, _, hb, _⟩ := parts_ok V hV hn X hX
    exact ⟨[colO V, bo X], rfl, rfl, fun _ => lg_to hb rfl⟩)
  rw [filterT] at c
  have e : (parts V).map (fun X => Dt.int (X.length : Int)) = ((parts V).map fun X => (X.length : Int)).map Dt.int := by rw [List.map_map]; rfl
  rw [e] at c
  have s : ∀ P : List (List (Option Int)), (P.map fun X => (X.length : Int)).sum = (P.flatten.length : Int) := by
    intro P
    induction P with
    | nil => rfl
    | cons X P ih => rw [List.map_cons, List.sum_cons, ih, List.flatten_cons, List.length_append]; omega
  exact fn_rt (ret_to (Eq.trans (call_1 c) (Eq.trans (bSum_to _) (by rw [s, parts_flat V hn]))) rfl)
noncomputable def kdT (X : List (Option Int)) : Dt := .tup [.str (kd X), .int (X.length : Int)]
theorem kinds20 : den_Column_kinds [colO V] = rok (.lst ((parts V).map kdT)) := by
  have c := comp_map (it := iLst (d1 (gAttr 3 0) (dVar 0))) (set := setN 1) (p := pYes) (f := dTup (aCons (kiA 1) (aCons (lgA 1) aNil))) (ρ := [colO V, .non]) bo (fun _ => true) kdT (parts V) (blocks_it V _) (by have := parts_len V hn; omega) (fun X hX => by
    obtain ⟨_, _, _, hb, _⟩ := parts_ok V hV hn X hX
    exact ⟨[colO V, bo X], rfl, rfl, fun _ => tup2_to (ki_to hb rfl) (lg_to hb rfl)⟩)
  rw [filterT] at c
  exact fn_rt (ret_to c rfl)
theorem kinds_okN : okN 8 (.lst ((parts V).map kdT)) = true := okN_lst fun d hd => by
  obtain ⟨X, hX, rfl⟩ := List.mem_map.mp hd
  have := strOk_kinds _ (parts_ok V hV hn X hX).2.2.1.kd
  show ([Dt.str (kd X), Dt.int (X.length : Int)].all (okN 6)) = true
  simp [okN, this]
theorem bits20 : den_Column_bits [colO V] = rok (BS (tightOf V)) := by
  have sp := parts_ok V hV hn
  have hl := parts_len V hn
  have c := comp_map (it := iLst (d1 (gAttr 3 0) (dVar 0))) (set := setN 1) (p := pYes) (f := dCall den_packed (aCons (kiA 1) (aCons (vlA 1) aNil))) (ρ := [colO V, .non]) bo (fun _ => true) (fun X => BS (bitsOf X)) (parts V) (blocks_it V _) (by omega) (fun X hX => by
    obtain ⟨h0, h1, p, hb, _⟩ := sp X hX
    exact ⟨[colO V, bo X], rfl, rfl, fun _ => Eq.trans (call_2 (ki_to hb rfl) (vl_to hb rfl)) (bits_part X h0 h1 p).1⟩)
  rw [filterT] at c
  have j := join_to ((parts V).map bitsOf) (by
    intro y hy
    obtain ⟨X, hX, rfl⟩ := List.mem_map.mp hy
    obtain ⟨h0, h1, p, _⟩ := sp X hX
    have := (bits_part X h0 h1 p).2.2.1
    have := p.hi
    omega) (by rw [List.length_map]; omega)
  rw [List.map_map] at j
  exact fn_rt (ret_to (Eq.trans (m_to rfl c) j) rfl)
end
theorem between_to {f1 f2 f3 : List Dt → R Dt} {ρ : List Dt} {a b c : Int} (h1 : f1 ρ = rok (.int a)) (h2 : f2 ρ = rok (.int b)) (h3 : f3 ρ = rok (.int c)) : dT (d3 dLe dLt f1 f2 f3) ρ = rok (decide (a ≤ b ∧ b < c)) := by
  refine t_to ?_
  rw [ev_d3, h1, rbind_ok, h2, rbind_ok, ev_le, rbind_ok, ev_dBool, rbind_ok]
  by_cases k : a ≤ b
  · rw [decide_eq_true k, if_pos rfl, h3, rbind_ok, ev_lt]
    by_cases k2 : b < c
    · rw [decide_eq_true k2, decide_eq_true ⟨k, k2⟩]
    · rw [decide_eq_false k2, decide_eq_false fun h => k2 h.2]
  · rw [decide_eq_false k, if_neg (by decide), decide_eq_false fun h => k h.1]
theorem need_ok (C : Dt) (i n : Int) : den_Column_need [C, .int i, .int n] = if 0 ≤ i ∧ i < n then rok .non else some (.error 4) := by
  have t : dT (d3 dLe dLt (dC (.int 0)) (dVar 1) (dVar 2)) [C, .int i, .int n] = rok (decide (0 ≤ i ∧ i < n)) := between_to rfl rfl rfl
  by_cases c : 0 ≤ i ∧ i < n
  · rw [decide_eq_true c] at t
    rw [if_pos c]
    exact fn_nx (Eq.trans (ifS_f (not_to (b := true) t)) rfl)
  · rw [decide_eq_false c] at t
    rw [if_neg c]
    exact fn_er (Eq.trans (ifS_t (not_to (b := false) t)) rfl)
theorem meth_er {c : Nat} {h f : List Dt → R Dt} {fs : List Dt → R (List Dt)} {ρ l ds : List Dt} {k : Nat} (h1 : f ρ = rok (.obj c l)) (h2 : fs ρ = rok ds) (h3 : h (.obj c l :: ds) = some (.error k)) : dMeth c h f fs ρ = some (.error k) := Eq.trans (meth_to h1 h2) h3
abbrev valB : List Dt → R Fl := dSeq (dIfS (dT (d2 dLt (dVar 1) (lgA 2))) (dRet .flat (d2 dIx (vlA 2) (dVar 1))) dNext) (dSet 1 (d2 dSub (dVar 1) (lgA 2)))
theorem value_for (C : Dt) : ∀ (P : List (List (Option Int))) (i : Nat) (x : Dt), (∀ X ∈ P, Blk (bo X) (kd X) X) → i < P.flatten.length → dForL (setN 2) valB (P.map bo) [C, .int (i : Int), x] = rok (.rt (OI ((P.flatten[i]?).join)))
  | [], i, x, _, h => absurd h (by simp)
  | X :: P, i, x, hb, h => by
    have hX := hb X List.mem_cons_self
    have lg : lgA 2 [C, .int (i : Int), bo X] = rok (.int (X.length : Int)) := lg_to hX rfl
    have t : dT (d2 dLt (dVar 1) (lgA 2)) [C, .int (i : Int), bo X] = rok (decide (i < X.length)) := by
      refine t_to (Eq.trans (d2_to (a := .int (i : Int)) rfl lg) ?_)
      rw [ev_lt]
      congr 2
      exact decide_eq_decide.mpr (by omega)
    rw [List.map_cons, dForL, ev_setN, Option.map_some]
    show rbind (valB [C, .int (i : Int), bo X]) _ = _
    by_cases c : i < X.length
    · rw [decide_eq_true c] at t
      have e : valB [C, .int (i : Int), bo X] = rok (.rt (OI X[i])) := take_ t (ret_to (Eq.trans (d2_to (b := .int (i : Int)) (vl_to hX rfl) rfl) (at_OI X i c)) (isFlat_OI _))
      rw [e, rbind_ok, List.flatten_cons, List.getElem?_append_left c, List.getElem?_eq_getElem c]
      rfl
    · rw [decide_eq_false c] at t
      rw [List.flatten_cons, List.length_append] at h
      have e : valB [C, .int (i : Int), bo X] = rok (.nx [C, .int ((i - X.length : Nat) : Int), bo X]) := by
        refine Eq.trans (skip t) (set_to (Eq.trans (d2_to (a := .int (i : Int)) rfl lg) ?_))
        rw [ev_sub]
        congr 2
        omega
      rw [e, rbind_ok, List.flatten_cons, List.getElem?_append_right (by omega)]
      exact value_for C P (i - X.length) (bo X) (fun Y hY => hb Y (List.mem_cons_of_mem _ hY)) (by omega)
theorem try_ok {ks : List Nat} {j : Nat} {s : List Dt → R Fl} {ρ ρ' : List Dt} (h : s ρ = rok (.nx ρ')) : dTry ks j s ρ = rok (.nx ρ') := by unfold dTry; rw [h]; rfl
theorem try_er {ks : List Nat} {j : Nat} {s : List Dt → R Fl} {ρ : List Dt} {k : Nat} (h : s ρ = some (.error k)) (hk : k ∈ ks) : dTry ks j s ρ = rok (.nx (ρ.set j (.exc k))) := by unfold dTry; rw [h]; exact if_pos hk
section
variable (V : List (Option Int)) (hV : ∀ o ∈ V, okV o) (hn : V.length ≤ 64)
include hV hn
theorem needs20 (i : Int) (x : Dt) : aCons (dVar 1) (aCons (dMeth 3 den_Column_size (dVar 0) aNil) aNil) [colO V, .int i, x] = rok [.int i, .int (V.length : Int)] := by
  have m : dMeth 3 den_Column_size (dVar 0) aNil [colO V, .int i, x] = rok (.int (V.length : Int)) := Eq.trans (meth_to (c := 3) (ds := []) rfl rfl) (size20 V hV hn)
  simp only [ev_aCons, ev_aNil, m, rbind_ok]
  rfl
theorem value20 (i : Nat) (h : i < V.length) : den_Column_value [colO V, .int (i : Int)] = rok (OI ((V[i]?).join)) := by
  have f := value_for (colO V) (parts V) i .non (fun X hX => (parts_ok V hV hn X hX).2.2.2.1) (by rw [parts_flat V hn]; exact h)
  rw [parts_flat V hn] at f
  have n := need_ok (colO V) (i : Int) (V.length : Int)
  rw [if_pos (by omega)] at n
  exact fn_rt (Eq.trans (seq_nx (drop_to (Eq.trans (meth_to (c := 3) rfl (needs20 V hV hn _ _)) n))) (seq_rt (Eq.trans (for_to (blocks_it V _)) f)))
theorem value20_er (i : Int) (h : ¬ (0 ≤ i ∧ i < V.length)) : den_Column_value [colO V, .int i] = some (.error 4) := by
  have n := need_ok (colO V) i (V.length : Int)
  rw [if_neg h] at n
  exact fn_er (seq_er (drop_er (Eq.trans (meth_to (c := 3) rfl (needs20 V hV hn _ _)) n)))
end
end VL

set_option Elab.async false
set_option linter.all false
set_option maxRecDepth 100000
set_option maxHeartbeats 1000000
namespace VL
open PySem PySem.Spec PyProof.Rows L2
/-! ### reading bits -/
def b01 (c : Nat) : Int := if c = 49 then 1 else 0
def vb (l : List Nat) : Int := l.foldl (fun a c => 2 * a + b01 c) 0
theorem vb_snoc (l : List Nat) (c : Nat) : vb (l ++ [c]) = 2 * vb l + b01 c := by unfold vb; rw [List.foldl_append]; rfl
theorem vb_bl : ∀ (n : Nat) (y : Int), 0 ≤ y → y < 2 ^ n → vb (bl n y) = y
  | 0, y, h0, h => by
    have : y = 0 := by simp at h; omega
    subst this; rfl
  | n + 1, y, h0, h => by
    have e : y / 2 < 2 ^ n := by rw [Int.pow_succ] at h; omega
    rw [bl, vb_snoc, vb_bl n (y / 2) (by omega) e]
    unfold bit b01
    by_cases c : y % 2 = 0
    · rw [if_pos c, if_neg (by decide)]; omega
    · rw [if_neg c, if_pos rfl]; omega
theorem fnM_rt {m : Nat} {s : List Dt → R Fl} {ds : List Dt} {d : Dt} (h : s (ds ++ List.replicate m .non) = rok (.rt d)) : dFnM m s ds = rok d := by
  unfold dFnM
  rw [h]
  rfl
/-- the tape: its signs, where it stands -/
def tp (S : List Nat) (h : Nat) : Dt := .obj 4 [BS S, .int (h : Int)]
theorem init_tape (S : List Nat) : den_Tape_init [.obj 4 [], BS S] = rok (.tup [.non, tp S 0]) :=
  fnM_nx (Eq.trans (seq_nx (attr_new (d := BS S) rfl rfl rfl)) (attr_new (d := .int 0) rfl rfl rfl)) rfl
theorem cut_S (S : List Nat) (h m : Nat) (hl : h + m ≤ S.length) (hs : S.length ≤ 1000000) {f l u : List Dt → R Dt} {ρ : List Dt} (h1 : f ρ = rok (BS S)) (h2 : l ρ = rok (.int (h : Int))) (h3 : u ρ = rok (.int ((h + m : Nat) : Int))) :
    dSl sliceF f (oSome l) (oSome u) ρ = rok (BS ((S.drop h).take m)) := by
  simp only [ev_Sl, h1, ev_oSome, h2, h3, rbind_ok, ev_oInt]
  show (if (SX.S S).length ≤ 16777216 then rok (Dt.str (cutS (SX.S S) (some (h : Int)) (some ((h + m : Nat) : Int)))) else none) = _
  rw [SX.S_len, if_pos (by omega)]
  have e : cutS (SX.S S) (some (h : Int)) (some ((h + m : Nat) : Int)) = SX.S ((S.drop h).take m) := by
    unfold cutS
    rw [HT.sIx_nat, HT.sIx_nat, SX.S_len]
    have e1 : min h S.length = h := by omega
    have e2 : min (h + m) S.length - h = m := by omega
    rw [e1, e2]
  rw [e]
theorem eq1_to {f : List Dt → R Dt} {ρ : List Dt} {c : Nat} (hc : c = 48 ∨ c = 49) (h : f ρ = rok (.str ⟨#[c]⟩)) : dCall (one bInt) (aCons (d2 dEq f (dC (.str "1"))) aNil) ρ = rok (.int (b01 c)) := by
  rcases hc with rfl | rfl
  · exact Eq.trans (call_1 (Eq.trans (d2_to h rfl) (ev_eqS _ _ (by decide +kernel) (by decide +kernel)))) (by rw [show (((⟨#[48]⟩ : Str)) == "1") = false by decide +kernel]; rfl)
  · exact Eq.trans (call_1 (Eq.trans (d2_to h rfl) (ev_eqS _ _ (by decide +kernel) (by decide +kernel)))) (by rw [show (((⟨#[49]⟩ : Str)) == "1") = true by decide +kernel]; rfl)
abbrev tkB : List Dt → R Fl := dSet 2 (d2 dAdd (d2 dMul (dC (.int 2)) (dVar 2)) (dCall (one bInt) (aCons (d2 dEq (dVar 3) (dC (.str "1"))) aNil)))
theorem take_for (t m : Dt) : ∀ (L : List Nat) (acc : List Nat) (y : Dt), is01 L → ∃ z, dForL (setN 3) tkB (L.map fun c => Dt.str ⟨#[c]⟩) [t, m, .int (vb acc), y] = rok (.nx [t, m, .int (vb (acc ++ L)), z])
  | [], acc, y, _ => ⟨y, by rw [List.append_nil]; rfl⟩
  | c :: L, acc, y, h => by
    have hc := h c List.mem_cons_self
    have s : tkB [t, m, .int (vb acc), .str ⟨#[c]⟩] = rok (.nx [t, m, .int (vb (acc ++ [c])), .str ⟨#[c]⟩]) := by
      refine Eq.trans (set_to (Eq.trans (d2_to (Eq.trans (d2_to (a := .int 2) (b := .int (vb acc)) rfl rfl) (ev_mulL _ _ (by decide))) (eq1_to hc rfl)) (ev_add _ _))) ?_
      rw [vb_snoc]
      rfl
    obtain ⟨z, ih⟩ := take_for t m L (acc ++ [c]) (.str ⟨#[c]⟩) fun x hx => h x (List.mem_cons_of_mem _ hx)
    refine ⟨z, ?_⟩
    rw [List.map_cons]
    have e0 : setN 3 (.str ⟨#[c]⟩) [t, m, .int (vb acc), y] = some [t, m, .int (vb acc), .str ⟨#[c]⟩] := rfl
    rw [dForL, e0]
    simp only [Option.map_some, rbind_ok', s, rbind_ok]
    rw [ih, List.append_assoc]
    rfl
theorem take_ok (S : List Nat) (h01 : is01 S) (hs : S.length ≤ 1000000) (h m : Nat) (hl : h + m ≤ S.length) : den_Tape_take [tp S h, .int (m : Int)] = rok (.tup [.int (vb ((S.drop h).take m)), tp S (h + m)]) := by
  have a0 : ∀ ρ : List Dt, d1 (gAttr 4 0) (dVar 0) (tp S h :: ρ) = rok (BS S) := fun ρ => rfl
  have a1 : ∀ ρ : List Dt, d1 (gAttr 4 1) (dVar 0) (tp S h :: ρ) = rok (.int (h : Int)) := fun ρ => rfl
  have ad : ∀ ρ : List Dt, d2 dAdd (d1 (gAttr 4 1) (dVar 0)) (dVar 1) (tp S h :: .int (m : Int) :: ρ) = rok (.int ((h + m : Nat) : Int)) := fun ρ => by
    refine Eq.trans (d2_to (a1 _) rfl) ?_
    rw [ev_add]
    have : (h : Int) + (m : Int) = ((h + m : Nat) : Int) := by omega
    rw [this]
  have t : dT (d2 dGt (d2 dAdd (d1 (gAttr 4 1) (dVar 0)) (dVar 1)) (dCall (one bLen) (aCons (d1 (gAttr 4 0) (dVar 0)) aNil))) [tp S h, .int (m : Int), .non, .non] = rok false := by
    refine t_to (Eq.trans (d2_to (ad _) (Eq.trans (call_1 (a0 _)) (bLen_S S (by omega)))) ?_)
    rw [ev_gt, decide_eq_false (by omega)]
  obtain ⟨z, f⟩ := take_for (tp S h) (.int (m : Int)) ((S.drop h).take m) [] .non fun c hc => h01 c (List.mem_of_mem_drop (List.mem_of_mem_take hc))
  refine fnM_rt ?_
  refine Eq.trans (skip t) (Eq.trans (seq_nx (set_to (d := .int (vb [])) rfl)) (Eq.trans (seq_nx (Eq.trans (for_to ?_) f)) (Eq.trans (seq_nx (attr_set 2 (ad _) rfl rfl (by decide))) rfl)))
  exact (congrArg (fun x => rbind x itS) (cut_S S h m hl hs (ρ := [tp S h, .int (m : Int), .int (vb []), .non]) (a0 _) (a1 _) (ad _))).trans rfl
end VL

set_option Elab.async false
set_option linter.all false
set_option maxRecDepth 100000
set_option maxHeartbeats 1000000
namespace VL
open PySem PySem.Spec PyProof.Rows L2
/-! ### how what writes computes -/
theorem xm_to {i c : Nat} {h : List Dt → R Dt} {fs : List Dt → R (List Dt)} {ρ ds l : List Dt} {r d1 : Dt} (hρ : ρ[i]? = some (.obj c l)) (h1 : fs ρ = rok ds) (h2 : h (.obj c l :: ds) = rok (.tup [r, d1])) : dXM i c h fs ρ = rok (r, ρ.set i d1) := by
  unfold dXM
  simp only [hρ, if_true, h1, rbind_ok, h2]
  rfl
theorem xf_to {i : Nat} {h : List Dt → R Dt} {fs : List Dt → R (List Dt)} {ρ ds : List Dt} {r d0 d1 : Dt} (hρ : ρ[i]? = some d0) (h1 : fs ρ = rok ds) (h2 : h (d0 :: ds) = rok (.tup [r, d1])) : dXF i h fs ρ = rok (r, ρ.set i d1) := by
  unfold dXF
  simp only [hρ, h1, rbind_ok, h2]
  rfl
theorem x1_to {h : List Dt → R Dt} {fx : List Dt → R (Dt × List Dt)} {ρ ρ' : List Dt} {d r : Dt} (h1 : fx ρ = rok (d, ρ')) (h2 : h [d] = rok r) : dX1 h fx ρ = rok (r, ρ') := by
  unfold dX1
  rw [h1, rbind_ok]
  show rbind (h [d]) _ = _
  rw [h2, rbind_ok]
theorem retMX_to {fx : List Dt → R (Dt × List Dt)} {ρ ρ' : List Dt} {d d0 : Dt} (h1 : fx ρ = rok (d, ρ')) (h0 : ρ'[0]? = some d0) : dRetMX fx ρ = rok (.rt (.tup [d, d0])) := by
  unfold dRetMX
  rw [h1, rbind_ok]
  simp only [h0]
theorem retM_to {f : List Dt → R Dt} {ρ : List Dt} {d d0 : Dt} (h1 : f ρ = rok d) (h0 : ρ[0]? = some d0) : dRetM f ρ = rok (.rt (.tup [d, d0])) := by
  unfold dRetM
  rw [h1, rbind_ok]
  simp only [h0]
theorem setX_to {i : Nat} {fx : List Dt → R (Dt × List Dt)} {ρ ρ' : List Dt} {d : Dt} (h1 : fx ρ = rok (d, ρ')) : dSetX i fx ρ = rok (.nx (ρ'.set i d)) := by
  unfold dSetX
  rw [h1, rbind_ok]
theorem xl_to {h : Dt → Dt → R Dt} {fx : List Dt → R (Dt × List Dt)} {f2 : List Dt → R Dt} {ρ ρ' : List Dt} {a b d : Dt} (h1 : fx ρ = rok (a, ρ')) (h2 : f2 ρ' = rok b) (h3 : h a b = rok d) : d2XL h fx f2 ρ = rok (d, ρ') := by
  unfold d2XL
  rw [h1, rbind_ok]
  show rbind (f2 ρ') _ = _
  rw [h2, rbind_ok, h3, rbind_ok]
theorem xr_to {h : Dt → Dt → R Dt} {fx : List Dt → R (Dt × List Dt)} {f1 : List Dt → R Dt} {ρ ρ' : List Dt} {a b d : Dt} (h1 : f1 ρ = rok a) (h2 : fx ρ = rok (b, ρ')) (h3 : h a b = rok d) : d2XR h f1 fx ρ = rok (d, ρ') := by
  unfold d2XR
  rw [h1, rbind_ok, h2, rbind_ok]
  show rbind (h a b) _ = _
  rw [h3, rbind_ok]
theorem forX_to {it : List Dt → R (List Dt × List Dt)} {set : Dt → List Dt → Option (List Dt)} {s : List Dt → R Fl} {ρ ρ' ds : List Dt} (h : it ρ = rok (ds, ρ')) : dForX it set s ρ = dForL set s ds ρ' := by
  unfold dForX
  rw [h, rbind_ok]
theorem rngX_to {fx : List Dt → R (Dt × List Dt)} {ρ ρ' : List Dt} {n : Int} (h : fx ρ = rok (.int n, ρ')) (hn : -1000000 ≤ n ∧ n ≤ 1000000) : iRngX fx ρ = rok (rng 0 n.toNat, ρ') := by
  unfold iRngX
  rw [h, rbind_ok]
  show rbind (rng1 [.int n]) _ = _
  rw [rng1_to n hn, rbind_ok]
theorem ofX_to {it : List Dt → R (List Dt)} {ρ ds : List Dt} (h : it ρ = rok ds) : iOfX it ρ = rok (ds, ρ) := by
  unfold iOfX
  rw [h, rbind_ok]
theorem extX_to {i : Nat} {fx : List Dt → R (Dt × List Dt)} {ρ ρ' m l : List Dt} (h : fx ρ = rok (.lst m, ρ')) (hl : ρ'[i]? = some (.lst l)) (hb : l.length + m.length ≤ 16777216) : dExtendX i fx ρ = rok (.nx (ρ'.set i (.lst (l ++ m)))) := by
  unfold dExtendX onLst
  rw [h, rbind_ok]
  simp only [hl]
  have e : kExtend [.lst m] l = rok (l ++ m) := if_pos hb
  rw [e, rbind_ok]
theorem appX_to {i : Nat} {fx : List Dt → R (Dt × List Dt)} {ρ ρ' l : List Dt} {d : Dt} (h : fx ρ = rok (d, ρ')) (hl : ρ'[i]? = some (.lst l)) (hb : l.length < 16777216) : dAppendX i fx ρ = rok (.nx (ρ'.set i (.lst (l ++ [d])))) := by
  unfold dAppendX onLst
  rw [h, rbind_ok]
  simp only [hl]
  have e : kAppend [d] l = rok (l ++ [d]) := if_pos hb
  rw [e, rbind_ok]
theorem lst1X_to {fx : List Dt → R (Dt × List Dt)} {ρ ρ' : List Dt} {d : Dt} (h : fx ρ = rok (d, ρ')) : dLst1X fx ρ = rok (.lst [d], ρ') := by
  unfold dLst1X
  rw [h, rbind_ok]
theorem compX_to {i : Nat} {it : List Dt → R (List Dt × List Dt)} {set : Dt → List Dt → Option (List Dt)} {fx : List Dt → R (Dt × List Dt)} {ρ ρ' ρ2 ds l : List Dt} (h : it ρ = rok (ds, ρ')) (hl : ds.length < 16777216) (hc : dCompXL i set fx ρ' ds = some (l, ρ2)) : dCompX i it set fx ρ = rok (.lst l, ρ2) := by
  unfold dCompX
  rw [h, rbind_ok]
  show (if ds.length < 16777216 then (dCompXL i set fx ρ' ds).map fun r => Except.ok (Dt.lst r.1, r.2) else none) = _
  rw [if_pos hl, hc]
  rfl
/-! ### where the tape stands -/
structure At (S : List Nat) (h : Nat) (l : List Nat) : Prop where
  le : h ≤ S.length
  e : S.drop h = l
structure Tape01 (S : List Nat) : Prop where
  z : is01 S
  n : S.length ≤ 1000000
section
variable {S : List Nat} (hS : Tape01 S)
theorem At.next {h : Nat} {a r : List Nat} (x : At S h (a ++ r)) : At S (h + a.length) r := by
  have e := congrArg List.length x.e
  rw [List.length_drop, List.length_append] at e
  refine ⟨by have := x.le; omega, ?_⟩
  rw [← List.drop_drop, x.e, List.drop_left]
theorem At.len {h : Nat} {a r : List Nat} (x : At S h (a ++ r)) : h + a.length ≤ S.length := x.next.le
theorem At.cut {h : Nat} {a r : List Nat} (x : At S h (a ++ r)) : (S.drop h).take a.length = a := by rw [x.e, List.take_left]
theorem At.assoc {h : Nat} {a b r : List Nat} (x : At S h ((a ++ b) ++ r)) : At S h (a ++ (b ++ r)) := ⟨x.le, by rw [x.e, List.append_assoc]⟩
include hS
theorem take_at {h : Nat} {a r : List Nat} (x : At S h (a ++ r)) (n : Nat) (hn : a.length = n) : den_Tape_take [tp S h, .int (n : Int)] = rok (.tup [.int (vb a), tp S (h + n)]) := by
  subst hn
  have := take_ok S hS.z hS.n h a.length x.len
  rw [x.cut] at this
  exact this
/-- self.take(e) -/
theorem tk_to {i h : Nat} {a r : List Nat} (x : At S h (a ++ r)) (n : Nat) (hn : a.length = n) {fe : List Dt → R Dt} {ρ : List Dt} (hρ : ρ[i]? = some (tp S h)) (he : fe ρ = rok (.int (n : Int))) : dXM i 4 den_Tape_take (aCons fe aNil) ρ = rok (.int (vb a), ρ.set i (tp S (h + n))) :=
  xm_to (ds := [.int (n : Int)]) hρ (by rw [ev_aCons, he, rbind_ok, ev_aNil]; rfl) (take_at hS x n hn)
omit hS in
theorem value_of_ok (o : Option Int) (ho : okV o) : den_value_of [.int (cd o)] = rok (OI o) := by
  cases o with
  | none => exact fn_rt (Eq.trans (skip rfl) (ret_to rfl rfl))
  | some x =>
    have := ho x rfl
    have t : dT (d2 dGt (dVar 0) (d2 dAdd (d2 dMul (dC (.int 2)) (dC (.int 4000000))) (dC (.int 1)))) [.int (cd (some x))] = rok false := by
      refine t_to (Eq.trans (d2_to (a := .int (cd (some x))) (b := .int 8000001) rfl rfl) ?_)
      rw [ev_gt, decide_eq_false (by show ¬ 8000001 < x + 4000000 + 1; omega)]
    have t2 : dT (d2 dEq (dVar 0) (dC (.int 0))) [.int (cd (some x))] = rok false := by
      refine t_to (Eq.trans (d2_to (a := .int (cd (some x))) rfl rfl) ?_)
      rw [ev_eqI, decide_eq_false (by show ¬ x + 4000000 + 1 = 0; omega)]
    refine fn_rt (Eq.trans (skip t) (ret_to (Eq.trans (if_f t2) (Eq.trans (d2_to (Eq.trans (d2_to (a := .int (cd (some x))) (b := .int 4000000) rfl rfl) (ev_sub _ _)) rfl) (ev_sub _ _))) rfl) |>.trans ?_)
    have : cd (some x) - 4000000 - 1 = x := by show x + 4000000 + 1 - 4000000 - 1 = x; omega
    rw [this]
    rfl
omit hS in
theorem cd_bd (o : Option Int) (ho : okV o) : 0 ≤ cd o ∧ cd o < 2 ^ 24 := by
  cases o with
  | none => exact ⟨by decide, by decide⟩
  | some x =>
    have := ho x rfl
    exact ⟨by show 0 ≤ x + 4000000 + 1; omega, by show x + 4000000 + 1 < 16777216; omega⟩
theorem need_v {h : Nat} {r : List Nat} (o : Option Int) (ho : okV o) (x : At S h (bl 24 (cd o) ++ r)) : den_need_value [tp S h] = rok (.tup [OI o, tp S (h + 24)]) := by
  have t := tk_to hS (i := 0) (ρ := [tp S h]) (fe := dC (.int 24)) x 24 (bl_len _ _) rfl rfl
  rw [vb_bl 24 (cd o) (cd_bd o ho).1 (cd_bd o ho).2] at t
  exact fnM_rt (retMX_to (x1_to t (value_of_ok o ho)) rfl)
/-- a list read one by one -/
theorem compXL_at {α : Type} (j : Nat) (xs : List Dt) (f : List Dt → R (Dt × List Dt)) (w : α → List Nat) (y : α → Dt) : ∀ (L : List α) (ds : List Dt) (h : Nat) (r : List Nat), ds.length = L.length → At S h ((L.map w).flatten ++ r) →
    (∀ a ∈ L, ∀ h d r, At S h (w a ++ r) → ∃ ρ2, f (tp S h :: xs.set j d) = rok (y a, tp S (h + (w a).length) :: ρ2)) → dCompXL 0 (setN (j + 1)) f (tp S h :: xs) ds = some (L.map y, tp S (h + (L.map w).flatten.length) :: xs)
  | [], [], h, r, _, _, _ => rfl
  | [], _ :: _, _, _, e, _, _ => by simp at e
  | _ :: _, [], _, _, e, _, _ => by simp at e
  | a :: L, d :: ds, h, r, e, x, k => by
    rw [List.map_cons, List.flatten_cons] at x
    obtain ⟨ρ2, e1⟩ := k a List.mem_cons_self h d _ x.assoc
    have ih := compXL_at j xs f w y L ds (h + (w a).length) r (by simpa using e) x.assoc.next fun b hb => k b (List.mem_cons_of_mem _ hb)
    have e0 : setN (j + 1) d (tp S h :: xs) = some (tp S h :: xs.set j d) := rfl
    rw [dCompXL, e0, Option.bind_some, e1]
    show (dCompXL 0 (setN (j + 1)) f (tp S (h + (w a).length) :: xs) ds).map _ = _
    rw [ih, List.map_cons, List.map_cons, List.flatten_cons, List.length_append, ← Nat.add_assoc]
    rfl
end
/-! ### widths -/
theorem width_val : ∀ (n x : Nat) (w : Int), x < 2 ^ n → ∃ k : Nat, x < 2 ^ k ∧ (k = 0 ∨ 2 ^ (k - 1) ≤ x) ∧ dWhile (n + 1) (dT (d2 dGt (dVar 0) (dC (.int 0)))) (dSeq (dSet 0 (d2 dFdiv (dVar 0) (dC (.int 2)))) (dSet 1 (d2 dAdd (dVar 1) (dC (.int 1))))) [.int (x : Int), .int w] = rok (.nx [.int 0, .int (w + (k : Int))])
  | 0, x, w, h => by
    have : x = 0 := by simpa using h
    subst this
    exact ⟨0, by decide, .inl rfl, by rw [show w + ((0 : Nat) : Int) = w by omega]; rfl⟩
  | n + 1, x, w, h => by
    by_cases hx : x = 0
    · subst hx
      exact ⟨0, by decide, .inl rfl, by rw [show w + ((0 : Nat) : Int) = w by omega]; rfl⟩
    · obtain ⟨k, hk, hk2, e⟩ := width_val n (x / 2) (w + 1) (by rw [Nat.pow_succ] at h; omega)
      refine ⟨k + 1, by rw [Nat.pow_succ]; omega, .inr ?_, ?_⟩
      · rw [Nat.add_sub_cancel]
        rcases hk2 with rfl | hk2
        · simp; omega
        · cases k with
          | zero => simp; omega
          | succ k =>
            rw [Nat.add_sub_cancel] at hk2
            rw [Nat.pow_succ]
            omega
      have hp : (0 : Int) < (x : Int) := by omega
      have e1 : dT (d2 dGt (dVar 0) (dC (.int 0))) [.int (x : Int), .int w] = rok true := by
        simp only [ev_T, ev_d2, ev_var0, ev_C, rbind_ok, ev_gt, hp, decide_true, ev_dBool]
      rw [dWhile, e1, rbind_ok, if_pos rfl]
      have e2 : (dSeq (dSet 0 (d2 dFdiv (dVar 0) (dC (.int 2)))) (dSet 1 (d2 dAdd (dVar 1) (dC (.int 1))))) [.int (x : Int), .int w] = rok (.nx [.int ((x / 2 : Nat) : Int), .int (w + 1)]) := by
        simp only [ev_Seq, ev_Set, ev_d2, ev_var0, ev_vars, ev_C, rbind_ok, ev_fdiv _ 2 (by decide), ev_add, List.set]
        rfl
      rw [e2, rbind_ok]
      refine Eq.trans e ?_
      rw [show w + 1 + (k : Int) = w + ((k + 1 : Nat) : Int) by omega]
theorem width_spec (x w : Nat) (hx : x < 2 ^ 25) (e : den_width [.int (x : Int)] = rok (.int (w : Int))) : x < 2 ^ w ∧ w ≤ 25 := by
  obtain ⟨k, h1, h2, h3⟩ := width_val 99 x 0 (Nat.lt_of_lt_of_le hx (Nat.pow_le_pow_right (by decide) (by decide)))
  have e2 : den_width [.int (x : Int)] = rok (.int (0 + (k : Int))) := fn_rt (Eq.trans (seq_nx (set_to rfl)) (Eq.trans (seq_nx h3) (ret_to rfl rfl)))
  have := int_inj e e2
  have : w = k := by omega
  subst this
  refine ⟨h1, ?_⟩
  rcases h2 with rfl | h2
  · omega
  · refine Nat.le_of_not_lt fun hw => ?_
    have : 2 ^ 25 ≤ 2 ^ (w - 1) := Nat.pow_le_pow_right (by decide) (by omega)
    omega
end VL

set_option Elab.async false
set_option linter.all false
set_option maxRecDepth 100000
set_option maxHeartbeats 1000000
namespace VL
open PySem PySem.Spec PyProof.Rows L2
theorem forL_one {set : Dt → List Dt → Option (List Dt)} {s : List Dt → R Fl} {d : Dt} {ds ρ ρ1 ρ2 : List Dt} (h1 : set d ρ = some ρ1) (h2 : s ρ1 = rok (.nx ρ2)) : dForL set s (d :: ds) ρ = dForL set s ds ρ2 := by
  rw [dForL, h1]
  simp only [Option.map_some, rbind_ok', h2, rbind_ok]
theorem args_1 {f : List Dt → R Dt} {ρ : List Dt} {d : Dt} (h : f ρ = rok d) : aCons f aNil ρ = rok [d] := by
  rw [ev_aCons, h, rbind_ok, ev_aNil, rbind_ok]
theorem rng_len (n : Nat) : (rng 0 (n : Int).toNat).length = n := by rw [rng_eq, List.length_map, List.length_range, Int.toNat_natCast]
section
variable {S : List Nat} (hS : Tape01 S)
include hS
/-! ### values one by one -/
theorem values_at (j : Nat) (xs : List Dt) (X : List (Option Int)) (hX : ∀ o ∈ X, okV o) (ds : List Dt) {h : Nat} {r : List Nat} (hd : ds.length = X.length) (x : At S h ((X.map fun o => bl 24 (cd o)).flatten ++ r)) :
    dCompXL 0 (setN (j + 1)) (dXF 0 den_need_value aNil) (tp S h :: xs) ds = some (X.map OI, tp S (h + (X.map fun o => bl 24 (cd o)).flatten.length) :: xs) :=
  compXL_at hS j xs _ (fun o => bl 24 (cd o)) OI X ds h r hd x fun o ho h d r x => ⟨_, by rw [bl_len]; exact xf_to (ds := []) rfl rfl (need_v hS o (hX o ho) x)⟩
theorem rv_plain (X : List (Option Int)) (hX : ∀ o ∈ X, okV o) (hl : X.length ≤ 100) {h : Nat} {r : List Nat} (x : At S h ((X.map fun o => bl 24 (cd o)).flatten ++ r)) :
    den_read_values [tp S h, .str "plain", .int (X.length : Int)] = rok (.tup [LO X, tp S (h + (X.map fun o => bl 24 (cd o)).flatten.length)]) :=
  fnM_rt (take_ (eqs_y (f := dVar 1) (a := "plain") rfl (by decide +kernel)) (retMX_to (compX_to (ofX_to (iRng1_to (a := (X.length : Int)) rfl (by omega))) (by rw [rng_len]; omega) (values_at hS 2 [.str "plain", .int (X.length : Int), .non] X hX _ (rng_len _) x)) rfl))
/-! ### runs -/
abbrev ruB : List Dt → R Fl := (dSeq (dSetX 4 (dXF 0 den_need_value aNil)) (dExtendX 2 (d2XR dRep (dLst (aCons (dVar 4) aNil)) (d2XL dAdd (dXM 0 4 den_Tape_take (aCons (dC (.int 8)) aNil)) (dC (.int 1))))))
def spread (R : List Run) : List (Option Int) := (R.map fun p => List.replicate p.2 p.1).flatten
theorem run_step (m d v : Dt) (acc : List (Option Int)) (p : Run) (h1 : okV p.1) (h2 : 1 ≤ p.2 ∧ p.2 ≤ 256) (hl : acc.length ≤ 100000) {h : Nat} {r : List Nat} (x : At S h (row p ++ r)) :
    ruB [tp S h, m, LO acc, d, v] = rok (.nx [tp S (h + (row p).length), m, LO (acc ++ List.replicate p.2 p.1), d, OI p.1]) := by
  have x1 := x.assoc
  have x2 := x1.next
  rw [bl_len] at x2
  have n := need_v hS p.1 h1 x1
  have t := tk_to hS (i := 0) (ρ := [tp S (h + 24), m, LO acc, d, OI p.1]) (fe := dC (.int 8)) x2 8 (bl_len _ _) rfl rfl
  rw [vb_bl 8 ((p.2 : Int) - 1) (by omega) (have q : ((2 : Int) ^ 8) = 256 := (by decide); by omega)] at t
  have c : d2XL dAdd (dXM 0 4 den_Tape_take (aCons (dC (.int 8)) aNil)) (dC (.int 1)) [tp S (h + 24), m, LO acc, d, OI p.1] = rok (.int (p.2 : Int), [tp S (h + 24 + 8), m, LO acc, d, OI p.1]) :=
    xl_to t rfl (by rw [ev_add, show (p.2 : Int) - 1 + 1 = (p.2 : Int) by omega])
  have rp : dRep (.lst [OI p.1]) (.int (p.2 : Int)) = rok (.lst ((List.replicate p.2 p.1).map OI)) := by rw [rep_to [OI p.1] p.2 ⟨by rw [List.length_singleton]; omega, by omega⟩, replO]
  have e := extX_to (i := 2) (l := acc.map OI) (xr_to (h := dRep) (f1 := dLst (aCons (dVar 4) aNil)) (lst1_to rfl) c rp) rfl (by rw [List.length_map, List.length_map, List.length_replicate]; omega)
  refine Eq.trans (seq_nx (setX_to (xf_to (ds := []) rfl rfl n))) (Eq.trans e ?_)
  have e2 : LO (acc ++ List.replicate p.2 p.1) = .lst (acc.map OI ++ (List.replicate p.2 p.1).map OI) := congrArg Dt.lst List.map_append
  rw [e2, row_len]
  rfl
theorem run_for (m : Dt) : ∀ (R : List Run) (ds : List Dt) (acc : List (Option Int)) (k v : Dt) (h : Nat) (r : List Nat), ds.length = R.length → (∀ p ∈ R, okV p.1 ∧ 1 ≤ p.2 ∧ p.2 ≤ 256) → acc.length + 256 * R.length ≤ 100000 → At S h ((R.map row).flatten ++ r) →
    ∃ k' v', dForL (setN 3) ruB ds [tp S h, m, LO acc, k, v] = rok (.nx [tp S (h + (R.map row).flatten.length), m, LO (acc ++ spread R), k', v'])
  | [], [], acc, k, v, h, r, _, _, _, _ => ⟨k, v, by simp [spread]; rfl⟩
  | [], _ :: _, _, _, _, _, _, e, _, _, _ => by simp at e
  | _ :: _, [], _, _, _, _, _, e, _, _, _ => by simp at e
  | p :: R, d :: ds, acc, k, v, h, r, e, hp, hl, x => by
    rw [List.map_cons, List.flatten_cons] at x
    rw [List.length_cons] at hl
    have q := hp p List.mem_cons_self
    have s := run_step hS m d v acc p q.1 q.2 (by omega) x.assoc
    obtain ⟨k', v', ih⟩ := run_for m R ds (acc ++ List.replicate p.2 p.1) d (OI p.1) (h + (row p).length) r (by simpa using e) (fun z hz => hp z (List.mem_cons_of_mem _ hz)) (by rw [List.length_append, List.length_replicate]; omega) x.assoc.next
    refine ⟨k', v', Eq.trans (forL_one rfl s) (Eq.trans ih ?_)⟩
    rw [List.map_cons, List.flatten_cons, List.length_append, ← Nat.add_assoc, List.append_assoc]
    rfl
theorem rv_runs (X : List (Option Int)) (hX : ∀ o ∈ X, okV o) (h0 : 1 ≤ X.length) (hl : X.length ≤ 100) {h : Nat} {r : List Nat} (x : At S h ((bl 8 (((runs X).length : Int) - 1) ++ ((runs X).map row).flatten) ++ r)) :
    den_read_values [tp S h, .str "runs", .int (X.length : Int)] = rok (.tup [LO X, tp S (h + (bl 8 (((runs X).length : Int) - 1) ++ ((runs X).map row).flatten).length)]) := by
  have hn := runs_len X
  have hc := runs_chgs X h0 (by omega)
  have t := tk_to hS (i := 0) (ρ := [tp S h, .int (X.length : Int), LO [], .non, .non]) (fe := dC (.int 8)) x.assoc 8 (bl_len _ _) rfl rfl
  rw [vb_bl 8 (((runs X).length : Int) - 1) (by omega) (have q : ((2 : Int) ^ 8) = 256 := (by decide); by omega)] at t
  have x2 := x.assoc.next
  rw [bl_len] at x2
  have hm : ∀ p ∈ runs X, okV p.1 := fun p hp => by
    have h1 := runs_pos X p hp
    have : p.1 ∈ ((runs X).map fun q : Run => List.replicate q.2 q.1).flatten := List.mem_flatten.mpr ⟨_, List.mem_map.mpr ⟨p, hp, rfl⟩, by rw [List.mem_replicate]; exact ⟨by omega, rfl⟩⟩
    rw [vals_runs_flat X] at this
    exact hX _ this
  obtain ⟨k', v', f⟩ := run_for hS (.int (X.length : Int)) (runs X) (rng 0 ((runs X).length : Int).toNat) [] .non .non (h + 8) r (rng_len _) (fun p hp => ⟨hm p hp, runs_pos X p hp, by have := runs_le X p hp; omega⟩) (by rw [List.length_nil]; omega) x2
  have e : spread (runs X) = X := vals_runs_flat X
  rw [e, List.nil_append] at f
  have rr : den_read_runs [tp S h, .int (X.length : Int)] = rok (.tup [LO X, tp S (h + 8 + ((runs X).map row).flatten.length)]) :=
    fnM_rt (Eq.trans (seq_nx (set_to (d := LO []) rfl)) (Eq.trans (seq_nx (Eq.trans (forX_to (rngX_to (xl_to t rfl (by rw [ev_add, show ((runs X).length : Int) - 1 + 1 = ((runs X).length : Int) by omega])) (by omega))) f)) (retM_to rfl rfl)))
  rw [List.length_append, bl_len, ← Nat.add_assoc]
  exact fnM_rt (Eq.trans (skip (eqs_n (f := dVar 1) (a := "runs") rfl (by decide +kernel))) (take_ (eqs_y (f := dVar 1) (a := "runs") rfl (by decide +kernel)) (retMX_to (xf_to (ds := [.int (X.length : Int)]) rfl (args_1 rfl) rr) rfl)))
/-! ### a book -/
abbrev bkB : List Dt → R Fl := (dSeq (dSetX 5 (dXM 0 4 den_Tape_take (aCons (dCall den_width (aCons (d2 dSub (dCall (one bLen) (aCons (dVar 2) aNil)) (dC (.int 1))) aNil)) aNil))) (dSeq (dIfS (dT (d2 dGe (dVar 5) (dCall (one bLen) (aCons (dVar 2) aNil)))) (dRaise 3) dNext) (dAppend 3 (d2 dIx (dVar 2) (dVar 5)))))
theorem bk_step (W : List (Option Int)) (w : Nat) (ew : den_width [.int ((W.length : Int) - 1)] = rok (.int (w : Int))) (hw : W.length ≤ 2 ^ w) (m k n : Dt) (acc : List (Option Int)) (hl : acc.length ≤ 100000) (i : Nat) (o : Option Int) (hi : W[i]? = some o) {h : Nat} {r : List Nat} (x : At S h (bl w (i : Int) ++ r)) :
    bkB [tp S h, m, LO W, LO acc, k, n] = rok (.nx [tp S (h + w), m, LO W, LO (acc ++ [o]), k, .int (i : Int)]) := by
  have hlt : i < W.length := (List.getElem?_eq_some_iff.mp hi).1
  have t := tk_to hS (i := 0) (ρ := [tp S h, m, LO W, LO acc, k, n]) (fe := dCall den_width (aCons (d2 dSub (dCall (one bLen) (aCons (dVar 2) aNil)) (dC (.int 1))) aNil)) x w (bl_len _ _) rfl (Eq.trans (call_1 (Eq.trans (d2_to (len_to rfl) rfl) (ev_sub _ _))) ew)
  have hp : ((2 ^ w : Nat) : Int) = (2 : Int) ^ w := by rw [Int.natCast_pow]; rfl
  rw [vb_bl w (i : Int) (by omega) (by rw [← hp]; omega)] at t
  have g : dT (d2 dGe (dVar 5) (dCall (one bLen) (aCons (dVar 2) aNil))) [tp S (h + w), m, LO W, LO acc, k, .int (i : Int)] = rok false := by
    refine t_to (Eq.trans (d2_to (a := .int (i : Int)) rfl (len_to rfl)) ?_)
    rw [ev_ge, decide_eq_false (by omega)]
  have ix : d2 dIx (dVar 2) (dVar 5) [tp S (h + w), m, LO W, LO acc, k, .int (i : Int)] = rok (OI o) := by
    refine Eq.trans (d2_to (a := LO W) (b := .int (i : Int)) rfl rfl) (Eq.trans (at_OI W i hlt) ?_)
    rw [List.getElem?_eq_getElem hlt] at hi
    injection hi with hi
    rw [hi]
  refine Eq.trans (seq_nx (setX_to t)) (Eq.trans (skip g) (Eq.trans (app_to (i := 3) (l := acc.map OI) ix rfl (by rw [List.length_map]; omega)) ?_))
  have e2 : LO (acc ++ [o]) = .lst (acc.map OI ++ [OI o]) := congrArg Dt.lst List.map_append
  rw [e2]
  rfl
theorem bk_for (W : List (Option Int)) (w : Nat) (ew : den_width [.int ((W.length : Int) - 1)] = rok (.int (w : Int))) (hw : W.length ≤ 2 ^ w) (m : Dt) (f : Option Int → Nat) : ∀ (L : List (Option Int)) (ds : List Dt) (acc : List (Option Int)) (k n : Dt) (h : Nat) (r : List Nat), ds.length = L.length → (∀ o ∈ L, W[f o]? = some o) → acc.length + L.length ≤ 100000 → At S h ((L.map fun o => bl w (f o : Int)).flatten ++ r) →
    ∃ k' n', dForL (setN 4) bkB ds [tp S h, m, LO W, LO acc, k, n] = rok (.nx [tp S (h + (L.map fun o => bl w (f o : Int)).flatten.length), m, LO W, LO (acc ++ L), k', n'])
  | [], [], acc, k, v, h, r, _, _, _, _ => ⟨k, v, by rw [List.append_nil]; rfl⟩
  | [], _ :: _, _, _, _, _, _, e, _, _, _ => by simp at e
  | _ :: _, [], _, _, _, _, _, e, _, _, _ => by simp at e
  | o :: L, d :: ds, acc, k, v, h, r, e, hp, hl, x => by
    rw [List.map_cons, List.flatten_cons] at x
    rw [List.length_cons] at hl
    have s := bk_step hS W w ew hw m d v acc (by omega) (f o) o (hp o List.mem_cons_self) x.assoc
    have xn := x.assoc.next
    rw [bl_len] at xn
    obtain ⟨k', v', ih⟩ := bk_for W w ew hw m f L ds (acc ++ [o]) d (.int (f o : Int)) (h + w) r (by simpa using e) (fun z hz => hp z (List.mem_cons_of_mem _ hz)) (by rw [List.length_append, List.length_singleton]; omega) xn
    refine ⟨k', v', Eq.trans (forL_one rfl s) (Eq.trans ih ?_)⟩
    rw [List.map_cons, List.flatten_cons, List.length_append, bl_len, ← Nat.add_assoc, List.append_assoc]
    rfl
theorem rv_book (X : List (Option Int)) (hX : ∀ o ∈ X, okV o) (h0 : 1 ≤ X.length) (hl : X.length ≤ 100) (w : Nat) (ew : den_width [.int ((bk X).length - 1)] = rok (.int (w : Int))) (c : (bk X).length ≤ 64) {h : Nat} {r : List Nat}
    (x : At S h ((bl 6 (((bk X).length : Int) - 1) ++ (((bk X).map fun o => bl 24 (cd o)) ++ X.map fun o => bl w ((bk X).findIdx (fun z => decide (z = o)) : Nat)).flatten) ++ r)) :
    den_read_values [tp S h, .str "book", .int (X.length : Int)] = rok (.tup [LO X, tp S (h + (bl 6 (((bk X).length : Int) - 1) ++ (((bk X).map fun o => bl 24 (cd o)) ++ X.map fun o => bl w ((bk X).findIdx (fun z => decide (z = o)) : Nat)).flatten).length)]) := by
  have hp := bk_pos X h0
  have t := tk_to hS (i := 0) (ρ := [tp S h, .int (X.length : Int), .non, .non, .non, .non]) (fe := dC (.int 6)) x.assoc 6 (bl_len _ _) rfl rfl
  rw [vb_bl 6 (((bk X).length : Int) - 1) (by omega) (have q : ((2 : Int) ^ 6) = 64 := (by decide); by omega)] at t
  have x2 := x.assoc.next
  rw [bl_len, List.flatten_append] at x2
  have x3 := x2.assoc
  have cv := values_at hS 3 [.int (X.length : Int), .non, .non, .non, .non] (bk X) (fun o ho => hX o ((bk_mem X o).mp ho)) (rng 0 ((bk X).length : Int).toNat) (rng_len _) x3
  have x4 := x3.next
  have hw : (bk X).length ≤ 2 ^ w := by
    obtain ⟨n, hn⟩ : ∃ n, (bk X).length = n + 1 := ⟨(bk X).length - 1, by omega⟩
    have e1 : ((bk X).length : Int) - 1 = ((n : Nat) : Int) := by omega
    rw [e1] at ew
    have := (width_spec n w (have q : (2 : Nat) ^ 25 = 33554432 := (by decide); by omega) ew).1
    omega
  obtain ⟨k', n', f⟩ := bk_for hS (bk X) w ew hw (.int (X.length : Int)) (fun o => (bk X).findIdx (fun z => decide (z = o))) X (rng 0 (X.length : Int).toNat) [] .non .non (h + 6 + ((bk X).map fun o => bl 24 (cd o)).flatten.length) r (rng_len _) (fun o ho => ix_at X o ho) (by rw [List.length_nil]; omega) x4
  rw [List.nil_append] at f
  have rb : den_read_book [tp S h, .int (X.length : Int)] = rok (.tup [LO X, tp S (h + 6 + ((bk X).map fun o => bl 24 (cd o)).flatten.length + (X.map fun o => bl w ((bk X).findIdx (fun z => decide (z = o)) : Nat)).flatten.length)]) :=
    fnM_rt (Eq.trans (seq_nx (setX_to (compX_to (rngX_to (xl_to t rfl (by rw [ev_add, show ((bk X).length : Int) - 1 + 1 = ((bk X).length : Int) by omega])) (by omega)) (by rw [rng_len]; omega) cv))) (Eq.trans (seq_nx (set_to (d := LO []) rfl)) (Eq.trans (seq_nx (Eq.trans (for_to (iRng1_to (a := (X.length : Int)) rfl (by omega))) f)) (retM_to rfl rfl))))
  rw [List.length_append, bl_len, List.flatten_append, List.length_append, ← Nat.add_assoc, ← Nat.add_assoc]
  exact fnM_rt (Eq.trans (skip (eqs_n (f := dVar 1) (a := "book") rfl (by decide +kernel))) (Eq.trans (skip (eqs_n (f := dVar 1) (a := "book") rfl (by decide +kernel))) (take_ (eqs_y (f := dVar 1) (a := "book") rfl (by decide +kernel)) (retMX_to (xf_to (ds := [.int (X.length : Int)]) rfl (args_1 rfl) rb) rfl))))
end
end VL

set_option Elab.async false
set_option linter.all false
set_option maxRecDepth 100000
set_option maxHeartbeats 1000000
namespace VL
open PySem PySem.Spec PyProof.Rows L2
/-! ### base -/
theorem ov_base (X : List (Option Int)) (hX : ∀ o ∈ X, okV o) : okV (some (baseOf X)) := by
  intro i e
  injection e with e
  subst e
  unfold baseOf
  split
  · omega
  · rename_i c
    have hne : nums X ≠ [] := by
      intro e
      rw [e] at c
      exact c rfl
    exact hX _ ((nums_mem X _).mp (min_mem (nums X) hne).1) _ rfl
def abv (X : List (Option Int)) (o : Option Int) : Int := match o with
  | none => 0
  | some v => v - baseOf X + 1
theorem aboves_abv (X : List (Option Int)) : aboves X = X.map (abv X) := by
  unfold aboves
  refine List.map_congr_left fun o _ => ?_
  cases o <;> rfl
theorem le_maxI0 (l : List Int) : ∀ c ∈ l, c ≤ maxI (0 :: l) := fun c hc => (max_mem (0 :: l) (by simp)).2 c (List.mem_cons_of_mem _ hc)
theorem maxI0_pos (l : List Int) : 0 ≤ maxI (0 :: l) := (max_mem (0 :: l) (by simp)).2 0 List.mem_cons_self
theorem codes_lt (l : List Int) (w : Nat) (hl : ∀ c ∈ l, 0 ≤ c ∧ c ≤ 16000001) (ew : den_width [.int (maxI (0 :: l))] = rok (.int (w : Int))) : w ≤ 25 ∧ ∀ c ∈ l, 0 ≤ c ∧ c < 2 ^ w := by
  obtain ⟨n, hn⟩ := Int.eq_ofNat_of_zero_le (maxI0_pos l)
  have hm := (max_mem (0 :: l) (by simp)).1
  have hb : maxI (0 :: l) ≤ 16000001 := by
    rcases List.mem_cons.mp hm with e | e
    · omega
    · exact (hl _ e).2
  rw [hn] at ew
  have s := width_spec n w (have q : (2 : Nat) ^ 25 = 33554432 := (by decide); by omega) ew
  have hp : ((2 ^ w : Nat) : Int) = (2 : Int) ^ w := by rw [Int.natCast_pow]; rfl
  refine ⟨s.2, fun c hc => ⟨(hl c hc).1, ?_⟩⟩
  have := le_maxI0 l c hc
  rw [← hp]
  omega
section
variable {S : List Nat} (hS : Tape01 S)
include hS
/-- codes of w bits one by one -/
theorem codes_at (j : Nat) (xs : List Dt) (fe : List Dt → R Dt) (w : Nat) (he : ∀ t d, fe (t :: xs.set j d) = rok (.int (w : Int))) (L : List Int) (hL : ∀ c ∈ L, 0 ≤ c ∧ c < 2 ^ w) (ds : List Dt) {h : Nat} {r : List Nat} (hd : ds.length = L.length) (x : At S h ((L.map fun c => bl w c).flatten ++ r)) :
    dCompXL 0 (setN (j + 1)) (dXM 0 4 den_Tape_take (aCons fe aNil)) (tp S h :: xs) ds = some (L.map Dt.int, tp S (h + (L.map fun c => bl w c).flatten.length) :: xs) :=
  compXL_at hS j xs _ (fun c => bl w c) Dt.int L ds h r hd x fun c hc h d r x => ⟨_, by
    have t := tk_to hS (i := 0) (ρ := tp S h :: xs.set j d) (fe := fe) x w (bl_len _ _) rfl (he _ _)
    rw [vb_bl w c (hL c hc).1 (hL c hc).2] at t
    rw [bl_len]
    exact t⟩
theorem rv_base (X : List (Option Int)) (hX : ∀ o ∈ X, okV o) (h0 : 1 ≤ X.length) (hl : X.length ≤ 100) (w : Nat) (ew : den_width [.int (maxI (0 :: aboves X))] = rok (.int (w : Int))) {h : Nat} {r : List Nat}
    (x : At S h ((bl 24 (cd (some (baseOf X))) ++ bl 5 (w : Int) ++ ((aboves X).map fun c => bl w c).flatten) ++ r)) :
    den_read_values [tp S h, .str "base", .int (X.length : Int)] = rok (.tup [LO X, tp S (h + (bl 24 (cd (some (baseOf X))) ++ bl 5 (w : Int) ++ ((aboves X).map fun c => bl w c).flatten).length)]) := by
  have hc := codes_lt (aboves X) w (fun c hc => by have := above_bd X hX c hc; omega) ew
  have x1 : At S h (bl 24 (cd (some (baseOf X))) ++ (bl 5 (w : Int) ++ (((aboves X).map fun c => bl w c).flatten ++ r))) := ⟨x.le, by rw [x.e]; simp [List.append_assoc]⟩
  have n := need_v hS (some (baseOf X)) (ov_base X hX) x1
  have x2 := x1.next
  rw [bl_len] at x2
  have t := tk_to hS (i := 0) (ρ := [tp S (h + 24), .int (X.length : Int), .int (baseOf X), .non, .non, .non, .non]) (fe := dC (.int 5)) x2 5 (bl_len _ _) rfl rfl
  rw [vb_bl 5 (w : Int) (by omega) (have q : ((2 : Int) ^ 5) = 32 := (by decide); by omega)] at t
  have x3 := x2.next
  rw [bl_len] at x3
  have hal : (aboves X).length = X.length := by rw [aboves_abv, List.length_map]
  have c := codes_at hS 4 [.int (X.length : Int), .int (baseOf X), .int (w : Int), .non, .non, .non] (dVar 3) w (fun _ _ => rfl) (aboves X) hc.2 (rng 0 (X.length : Int).toNat) (by rw [rng_len, hal]) x3
  have dc := comp_map (it := iLst (dVar 4)) (set := setN 6) (p := pYes) (f := dIf (dT (d2 dEq (dVar 6) (dC (.int 0)))) (dC .non) (d2 dSub (d2 dAdd (dVar 2) (dVar 6)) (dC (.int 1)))) (ρ := [tp S (h + 24 + 5 + ((aboves X).map fun c => bl w c).flatten.length), .int (X.length : Int), .int (baseOf X), .int (w : Int), LI (aboves X), .non, .non]) (fun o => Dt.int (abv X o)) (fun _ => true) OI X (by
    refine lst_to ?_
    show rok (LI (aboves X)) = _
    rw [aboves_abv, LI, List.map_map]
    rfl) (by omega) (fun o ho => ⟨[tp S (h + 24 + 5 + ((aboves X).map fun c => bl w c).flatten.length), .int (X.length : Int), .int (baseOf X), .int (w : Int), LI (aboves X), .non, .int (abv X o)], rfl, rfl, fun _ => by
      cases o with
      | none => exact Eq.trans (if_t (t_to (Eq.trans (d2_to (a := .int 0) rfl rfl) (ev_eqI _ _)))) rfl
      | some v =>
        have hm : v ∈ nums X := (nums_mem X v).mpr ho
        have hb : baseOf X ≤ v := by
          unfold baseOf
          rw [if_neg (by cases q : nums X <;> simp [q] at hm ⊢)]
          exact (min_mem (nums X) (by intro e; rw [e] at hm; simp at hm)).2 v hm
        refine Eq.trans (if_f (t_to (Eq.trans (d2_to (a := .int (v - baseOf X + 1)) rfl rfl) (Eq.trans (ev_eqI _ _) ?_)))) ?_
        · have e1 : decide ((v - baseOf X + 1 : Int) = 0) = false := decide_eq_false (by omega)
          exact congrArg (fun b => rok (Dt.bl b)) e1
        · refine Eq.trans (d2_to (Eq.trans (d2_to (a := .int (baseOf X)) (b := .int (v - baseOf X + 1)) rfl rfl) (ev_add _ _)) rfl) ?_
          have e2 : baseOf X + (v - baseOf X + 1) - 1 = v := by omega
          exact congrArg (fun i => rok (Dt.int i)) e2⟩)
  rw [filterT] at dc
  have rb : den_read_base [tp S h, .int (X.length : Int)] = rok (.tup [LO X, tp S (h + 24 + 5 + ((aboves X).map fun c => bl w c).flatten.length)]) :=
    fnM_rt (Eq.trans (seq_nx (setX_to (xf_to (ds := []) rfl rfl n))) (Eq.trans (seq_nx (setX_to t)) (Eq.trans (seq_nx (setX_to (compX_to (ofX_to (iRng1_to (a := (X.length : Int)) rfl (by omega))) (by rw [rng_len]; omega) c))) (Eq.trans (skip rfl) (retM_to dc rfl)))))
  rw [List.length_append, List.length_append, bl_len, bl_len, ← Nat.add_assoc, ← Nat.add_assoc]
  exact fnM_rt (Eq.trans (skip (eqs_n (f := dVar 1) (a := "base") rfl (by decide +kernel))) (Eq.trans (skip (eqs_n (f := dVar 1) (a := "base") rfl (by decide +kernel))) (Eq.trans (skip (eqs_n (f := dVar 1) (a := "base") rfl (by decide +kernel))) (take_ (eqs_y (f := dVar 1) (a := "base") rfl (by decide +kernel)) (retMX_to (xf_to (ds := [.int (X.length : Int)]) rfl (args_1 rfl) rb) rfl)))))
end
end VL

set_option Elab.async false
set_option linter.all false
set_option maxRecDepth 100000
set_option maxHeartbeats 1000000
namespace VL
open PySem PySem.Spec PyProof.Rows L2
/-! ### steps -/
abbrev decD (k : Nat) : List Dt → R Dt := dIf (dT (d2 dEq (d2 dMod (dVar k) (dC (.int 2))) (dC (.int 0)))) (d2 dFdiv (dVar k) (dC (.int 2))) (d2 dFdiv (d1 dNeg (d2 dAdd (dVar k) (dC (.int 1)))) (dC (.int 2)))
theorem dec_to {k : Nat} {ρ : List Dt} (x : Int) (h : dVar k ρ = rok (.int (if x ≥ 0 then 2 * x else -2 * x - 1))) : decD k ρ = rok (.int x) := by
  by_cases c : x ≥ 0
  · rw [if_pos c] at h
    have t : dT (d2 dEq (d2 dMod (dVar k) (dC (.int 2))) (dC (.int 0))) ρ = rok true := by
      refine t_to (Eq.trans (d2_to (Eq.trans (d2_to h rfl) (ev_mod _ _ (by decide))) rfl) ?_)
      rw [ev_eqI, decide_eq_true (by omega)]
    refine Eq.trans (if_t t) (Eq.trans (d2_to h rfl) (Eq.trans (ev_fdiv _ _ (by decide)) ?_))
    congr 3
    omega
  · rw [if_neg c] at h
    have t : dT (d2 dEq (d2 dMod (dVar k) (dC (.int 2))) (dC (.int 0))) ρ = rok false := by
      refine t_to (Eq.trans (d2_to (Eq.trans (d2_to h rfl) (ev_mod _ _ (by decide))) rfl) ?_)
      rw [ev_eqI, decide_eq_false (by omega)]
    refine Eq.trans (if_f t) (Eq.trans (d2_to (Eq.trans (d1_to (a := .int (-2 * x - 1 + 1)) (Eq.trans (d2_to h rfl) (ev_add _ _))) (ev_neg _)) rfl) (Eq.trans (ev_fdiv _ _ (by decide)) ?_))
    congr 3
    omega
abbrev stB : List Dt → R Fl := (dSeq (dSetX 5 (dXM 0 4 den_Tape_take (aCons (dVar 3) aNil))) (dAppend 2 (d2 dAdd (d2 dIx (dVar 2) (d1 dNeg (dC (.int 1)))) (decD 5))))
section
variable {S : List Nat} (hS : Tape01 S)
include hS
theorem st_step (M : List Int) (w : Nat) (m k z : Dt) (i : Nat) (hi : i + 1 < M.length) (hl : M.length ≤ 1000) (hc : 0 ≤ stepOf M i ∧ stepOf M i < 2 ^ w) {h : Nat} {r : List Nat} (x : At S h (bl w (stepOf M i) ++ r)) :
    stB [tp S h, m, LI (M.take (i + 1)), .int (w : Int), k, z] = rok (.nx [tp S (h + w), m, LI (M.take (i + 2)), .int (w : Int), k, .int (stepOf M i)]) := by
  have t := tk_to hS (i := 0) (ρ := [tp S h, m, LI (M.take (i + 1)), .int (w : Int), k, z]) (fe := dVar 3) x w (bl_len _ _) rfl rfl
  rw [vb_bl w (stepOf M i) hc.1 hc.2] at t
  have hs : M.take (i + 1) = M.take i ++ [M.getD i 0] := by
    rw [List.take_add_one, List.getElem?_eq_getElem (by omega), getD_in _ _ _ (by omega)]; rfl
  have e3 : d2 dAdd (d2 dIx (dVar 2) (d1 dNeg (dC (.int 1)))) (decD 5) [tp S (h + w), m, LI (M.take (i + 1)), .int (w : Int), k, .int (stepOf M i)] = rok (.int (M.getD (i + 1) 0)) := by
    have d := dec_to (k := 5) (ρ := [tp S (h + w), m, LI (M.take (i + 1)), .int (w : Int), k, .int (stepOf M i)]) (M.getD (i + 1) 0 - M.getD i 0) rfl
    refine Eq.trans (d2_to (at_lastI (M.take i) (M.getD i 0) (by rw [← hs]; rfl)) d) ?_
    rw [ev_add]
    congr 2
    omega
  have a := app_to (i := 2) (ρ := [tp S (h + w), m, LI (M.take (i + 1)), .int (w : Int), k, .int (stepOf M i)]) e3 rfl (by rw [List.length_map, List.length_take]; omega)
  refine Eq.trans (seq_nx (setX_to t)) (Eq.trans a ?_)
  rw [take_next M i hi]
  have : LI (M.take (i + 1) ++ [M.getD (i + 1) 0]) = .lst ((M.take (i + 1)).map Dt.int ++ [.int (M.getD (i + 1) 0)]) := congrArg Dt.lst List.map_append
  rw [this]
  rfl
theorem st_for (M : List Int) (w : Nat) (m : Dt) (hl : M.length ≤ 1000) (hc : ∀ i, i + 1 < M.length → 0 ≤ stepOf M i ∧ stepOf M i < 2 ^ w) : ∀ (n i : Nat) (ds : List Dt) (k z : Dt) (h : Nat) (r : List Nat), ds.length = n → i + n + 1 = M.length → At S h (((List.range' i n).map fun j => bl w (stepOf M j)).flatten ++ r) →
    ∃ k' z', dForL (setN 4) stB ds [tp S h, m, LI (M.take (i + 1)), .int (w : Int), k, z] = rok (.nx [tp S (h + ((List.range' i n).map fun j => bl w (stepOf M j)).flatten.length), m, LI M, .int (w : Int), k', z'])
  | 0, i, [], k, z, h, r, _, e, _ => ⟨k, z, by rw [show i + 1 = M.length by omega, List.take_length]; rfl⟩
  | 0, i, _ :: _, _, _, _, _, e, _, _ => by simp at e
  | _ + 1, i, [], _, _, _, _, e, _, _ => by simp at e
  | n + 1, i, d :: ds, k, z, h, r, e, hn, x => by
    rw [List.range'_succ, List.map_cons, List.flatten_cons] at x
    have s := st_step hS M w m d z i (by omega) hl (hc i (by omega)) x.assoc
    have xn := x.assoc.next
    rw [bl_len] at xn
    obtain ⟨k', z', ih⟩ := st_for M w m hl hc n (i + 1) ds d (.int (stepOf M i)) (h + w) r (by simpa using e) (by omega) xn
    refine ⟨k', z', Eq.trans (forL_one rfl s) (Eq.trans ih ?_)⟩
    rw [List.range'_succ, List.map_cons, List.flatten_cons, List.length_append, bl_len, ← Nat.add_assoc]
theorem rv_steps (M : List Int) (hX : ∀ x ∈ M, okI x) (h0 : 1 ≤ M.length) (hl : M.length ≤ 100) (o : Option Int) (ho : (M.map some)[0]? = some o) (w : Nat) (ew : den_width [.int (maxI (0 :: stepsOf M))] = rok (.int (w : Int))) {h : Nat} {r : List Nat}
    (x : At S h ((bl 24 (cd o) ++ bl 5 (w : Int) ++ ((stepsOf M).map fun c => bl w c).flatten) ++ r)) :
    den_read_values [tp S h, .str "steps", .int (M.length : Int)] = rok (.tup [LI M, tp S (h + (bl 24 (cd o) ++ bl 5 (w : Int) ++ ((stepsOf M).map fun c => bl w c).flatten).length)]) := by
  have hc := codes_lt (stepsOf M) w (fun c hc => by have := steps_bd M hX c hc; omega) ew
  have eo : o = some (M.getD 0 0) := by
    rw [List.getElem?_map, List.getElem?_eq_getElem (by omega)] at ho
    injection ho with ho
    rw [← ho, getD_in _ _ _ (by omega)]
  subst eo
  have x1 : At S h (bl 24 (cd (some (M.getD 0 0))) ++ (bl 5 (w : Int) ++ (((stepsOf M).map fun c => bl w c).flatten ++ r))) := ⟨x.le, by rw [x.e]; simp [List.append_assoc]⟩
  have n := need_v hS (some (M.getD 0 0)) (fun i e => by injection e with e; subst e; exact getD_ok M hX 0) x1
  have x2 := x1.next
  rw [bl_len] at x2
  have t := tk_to hS (i := 0) (ρ := [tp S (h + 24), .int (M.length : Int), LI (M.take 1), .non, .non, .non]) (fe := dC (.int 5)) x2 5 (bl_len _ _) rfl rfl
  rw [vb_bl 5 (w : Int) (by omega) (have q : ((2 : Int) ^ 5) = 32 := (by decide); by omega)] at t
  have x3 := x2.next
  rw [bl_len] at x3
  have es : (stepsOf M).map (fun c => bl w c) = (List.range' 0 (M.length - 1)).map fun j => bl w (stepOf M j) := by
    unfold stepsOf
    rw [List.map_map, ← List.range_eq_range']
    rfl
  have hst : ∀ i, i + 1 < M.length → 0 ≤ stepOf M i ∧ stepOf M i < 2 ^ w := fun i hi => hc.2 _ (by
    unfold stepsOf
    exact List.mem_map.mpr ⟨i, List.mem_range.mpr (by omega), rfl⟩)
  rw [es] at x3
  have e1 : LI (M.take 1) = .lst [OI (some (M.getD 0 0))] := by
    have : M.take 1 = [M.getD 0 0] := by
      cases M with
      | nil => simp at h0
      | cons a l => rfl
    rw [this]
    rfl
  obtain ⟨k', z', f⟩ := st_for hS M w (.int (M.length : Int)) (by omega) hst (M.length - 1) 0 (rng 0 ((M.length - 1 : Nat) : Int).toNat) .non .non (h + 24 + 5) r (rng_len _) (by omega) x3
  have it : iRng (aCons (d2 dSub (dVar 1) (dC (.int 1))) aNil) rng1 [tp S (h + 24 + 5), .int (M.length : Int), LI (M.take 1), .int (w : Int), .non, .non] = rok (rng 0 ((M.length - 1 : Nat) : Int).toNat) := by
    refine iRng1_to (Eq.trans (d2_to (a := .int (M.length : Int)) (b := .int 1) rfl rfl) ?_) (by omega)
    rw [ev_sub, show (M.length : Int) - 1 = ((M.length - 1 : Nat) : Int) by omega]
  have nn : dT (d2 dIsN (d2 dIx (dVar 2) (dC (.int 0))) (dC .non)) [tp S (h + 24 + 5), .int (M.length : Int), LI (M.take 1), .int (w : Int), .non, .non] = rok false := by
    rw [e1]
    rfl
  have rs : den_read_steps [tp S h, .int (M.length : Int)] = rok (.tup [LI M, tp S (h + 24 + 5 + ((List.range' 0 (M.length - 1)).map fun j => bl w (stepOf M j)).flatten.length)]) := by
    have s2 : dSetX 2 (dLst1X (dXF 0 den_need_value aNil)) [tp S h, .int (M.length : Int), .non, .non, .non, .non] = rok (.nx [tp S (h + 24), .int (M.length : Int), LI (M.take 1), .non, .non, .non]) := by
      refine Eq.trans (setX_to (lst1X_to (xf_to (ds := []) rfl rfl n))) ?_
      rw [e1]
      rfl
    exact fnM_rt (Eq.trans (seq_nx s2) (Eq.trans (seq_nx (setX_to t)) (Eq.trans (skip nn) (Eq.trans (seq_nx (Eq.trans (for_to it) f)) (retM_to rfl rfl)))))
  rw [List.length_append, List.length_append, bl_len, bl_len, es, ← Nat.add_assoc, ← Nat.add_assoc]
  exact fnM_rt (Eq.trans (skip (eqs_n (f := dVar 1) (a := "steps") rfl (by decide +kernel))) (Eq.trans (skip (eqs_n (f := dVar 1) (a := "steps") rfl (by decide +kernel))) (Eq.trans (skip (eqs_n (f := dVar 1) (a := "steps") rfl (by decide +kernel))) (Eq.trans (skip (eqs_n (f := dVar 1) (a := "steps") rfl (by decide +kernel))) (retMX_to (xf_to (ds := [.int (M.length : Int)]) rfl (args_1 rfl) rs) rfl)))))
end
end VL

set_option Elab.async false
set_option linter.all false
set_option maxRecDepth 100000
set_option maxHeartbeats 1000000
namespace VL
open PySem PySem.Spec PyProof.Rows L2
/-! ### a block -/
theorem lay_head {k : Str} {X : List (Option Int)} {l : List Nat} (hL : Lay k X l) : ∃ tail, l = Hd k X ++ tail := by
  cases hL with
  | plain => exact ⟨_, rfl⟩
  | runs => exact ⟨_, List.append_assoc _ _ _⟩
  | book => exact ⟨_, List.append_assoc _ _ _⟩
  | base => exact ⟨_, by rw [List.append_assoc, List.append_assoc]⟩
  | steps => exact ⟨_, by rw [List.append_assoc, List.append_assoc]⟩
section
variable {S : List Nat} (hS : Tape01 S)
include hS
theorem rv_lay {k : Str} {X : List (Option Int)} {l : List Nat} (hL : Lay k X l) (hX : Okl X) : ∃ tail, l = Hd k X ++ tail ∧ ∀ h r, At S h (tail ++ r) → den_read_values [tp S h, .str k, .int (X.length : Int)] = rok (.tup [LO X, tp S (h + tail.length)]) := by
  cases hL with
  | plain => exact ⟨_, rfl, fun h r x => rv_plain hS X hX.2.2 hX.2.1 x⟩
  | runs => exact ⟨_, List.append_assoc _ _ _, fun h r x => rv_runs hS X hX.2.2 hX.1 hX.2.1 x⟩
  | book _ w hw ew c => exact ⟨_, List.append_assoc _ _ _, fun h r x => rv_book hS X hX.2.2 hX.1 hX.2.1 w ew c x⟩
  | base _ w hw ew => exact ⟨bl 24 (cd (some (baseOf X))) ++ bl 5 (w : Int) ++ ((aboves X).map fun c => bl w c).flatten, by simp only [List.append_assoc], fun h r x => rv_base hS X hX.2.2 hX.1 hX.2.1 w ew x⟩
  | steps M o ho w hw ew =>
    refine ⟨bl 24 (cd o) ++ bl 5 (w : Int) ++ ((stepsOf M).map fun c => bl w c).flatten, by simp only [List.append_assoc], fun h r x => ?_⟩
    have h1 := hX.1
    have h2 := hX.2.1
    rw [List.length_map] at h1 h2
    have := rv_steps hS M (fun i hi => hX.2.2 (some i) (List.mem_map.mpr ⟨i, hi, rfl⟩) i rfl) h1 h2 o ho w ew x
    have e : LI M = LO (M.map some) := by show Dt.lst (M.map Dt.int) = _; rw [mapI]
    rw [List.length_map, ← e]
    exact this
omit hS in
theorem kx_at : ∀ k ∈ kinds, d2 dIx (dC (.tup ((["plain", "runs", "book", "base", "steps"] : List Str).map Dt.str))) (dVar 2) [.non, .non, .int (kx k : Nat)] = rok (.str k) := by
  intro k hk
  simp only [kinds, List.mem_cons, List.not_mem_nil, or_false] at hk
  rcases hk with rfl | rfl | rfl | rfl | rfl <;> rfl
omit hS in
theorem far_no (o : Option Int) (ho : okV o) {ρ : List Dt} (h : dVar 6 ρ = rok (OI o)) : dAndV (d2 dNotN (dVar 6) (dC .non)) (d1 dNot (d3 dLe dLe (d1 dNeg (dC (.int 4000000))) (dVar 6) (dC (.int 4000000)))) ρ = rok (.bl false) := by
  cases o with
  | none => exact andV_f' (Eq.trans (d2_to h rfl) rfl)
  | some x =>
    have hx := ho x rfl
    refine Eq.trans (andV_t' (Eq.trans (d2_to h rfl) rfl)) (Eq.trans (d1_to (a := .bl true) ?_) rfl)
    have e1 : d1 dNeg (dC (.int 4000000)) ρ = rok (.int (-4000000)) := rfl
    rw [ev_d3, e1, rbind_ok, h, rbind_ok]
    show rbind (dLe (.int (-4000000)) (.int x)) _ = _
    rw [ev_le, decide_eq_true hx.1, rbind_ok, ev_dBool, rbind_ok, if_pos rfl]
    show rbind (rok (Dt.int 4000000)) (fun c => dLe (.int x) c) = _
    rw [rbind_ok, ev_le, decide_eq_true hx.2]
theorem block_at {k : Str} (hk : k ∈ kinds) {X : List (Option Int)} (hX : Okl X) {l : List Nat} (hp : den_packed [.str k, LO X] = rok (BS l)) (hL : Lay k X l) (h01 : is01 l) {h : Nat} {r : List Nat} (x : At S h (l ++ r)) :
    den_read_block [tp S h] = rok (.tup [.tup [.str k, LO X], tp S (h + l.length)]) := by
  obtain ⟨tail, el, rv⟩ := rv_lay hS hL hX
  have x0 : At S h (bl 3 (kx k) ++ (bl 8 ((X.length : Int) - 1) ++ (tail ++ r))) := ⟨x.le, by rw [x.e, el]; unfold Hd; simp only [List.append_assoc]⟩
  have hkx := kx_lt k hk
  have hx1 := hX.1
  have hx2 := hX.2.1
  have t1 := tk_to hS (i := 0) (ρ := [tp S h, .int (h : Int), .non, .non, .non, .non, .non]) (fe := dC (.int 3)) x0 3 (bl_len _ _) rfl rfl
  rw [vb_bl 3 (kx k : Nat) (by omega) (have q : ((2 : Int) ^ 3) = 8 := (by decide); by omega)] at t1
  have x1 := x0.next
  rw [bl_len] at x1
  have t2 := tk_to hS (i := 0) (ρ := [tp S (h + 3), .int (h : Int), .int (kx k : Nat), .str k, .non, .non, .non]) (fe := dC (.int 8)) x1 8 (bl_len _ _) rfl rfl
  rw [vb_bl 8 ((X.length : Int) - 1) (by omega) (have q : ((2 : Int) ^ 8) = 256 := (by decide); by omega)] at t2
  have x2 := x1.next
  rw [bl_len] at x2
  have v := rv _ r x2
  have hl : h + l.length = h + 3 + 8 + tail.length := by rw [el, List.length_append, Hd_len]; omega
  have g1 : dT (d2 dGe (dVar 2) (dCall (one bLen) (aCons (dC (.tup ((["plain", "runs", "book", "base", "steps"] : List Str).map Dt.str))) aNil))) [tp S (h + 3), .int (h : Int), .int (kx k : Nat), .non, .non, .non, .non] = rok false := by
    refine t_to (Eq.trans (d2_to (a := .int (kx k : Nat)) (b := .int 5) rfl rfl) ?_)
    rw [ev_ge, decide_eq_false (by omega)]
  have kk : d2 dIx (dC (.tup ((["plain", "runs", "book", "base", "steps"] : List Str).map Dt.str))) (dVar 2) [tp S (h + 3), .int (h : Int), .int (kx k : Nat), .non, .non, .non, .non] = rok (.str k) := kx_at k hk
  have g2 : dT (d2 dGt (dVar 4) (dC (.int 100))) [tp S (h + 3 + 8), .int (h : Int), .int (kx k : Nat), .str k, .int (X.length : Int), .non, .non] = rok false := by
    refine t_to (Eq.trans (d2_to (a := .int (X.length : Int)) rfl rfl) ?_)
    rw [ev_gt, decide_eq_false (by omega)]
  have cm := comp_map (it := iLst (dVar 5)) (set := setN 6) (p := pYes) (f := dAndV (d2 dNotN (dVar 6) (dC .non)) (d1 dNot (d3 dLe dLe (d1 dNeg (dC (.int 4000000))) (dVar 6) (dC (.int 4000000))))) (ρ := [tp S (h + l.length), .int (h : Int), .int (kx k : Nat), .str k, .int (X.length : Int), LO X, .non]) OI (fun _ => true) (fun _ => Dt.bl false) X (lst_to rfl) (by omega) (fun o ho => ⟨[tp S (h + l.length), .int (h : Int), .int (kx k : Nat), .str k, .int (X.length : Int), LO X, OI o], rfl, rfl, fun _ => far_no o (hX.2.2 o ho) rfl⟩)
  rw [filterT] at cm
  have an : bAny (.lst (X.map fun _ => Dt.bl false)) = rok (.bl false) := by
    have e : (X.map fun _ => Dt.bl false) = (X.map fun _ => false).map Dt.bl := by rw [List.map_map]; rfl
    rw [e]
    unfold bAny onBools
    simp only [bools_map]
    have : (X.map fun _ => false).any id = false := by rw [List.any_map]; simp
    rw [this]
  have g3 : pOr (dT (d2 dNe (dCall (one bLen) (aCons (dVar 5) aNil)) (dVar 4))) (dT (dCall (one bAny) (aCons (dComp (iLst (dVar 5)) (setN 6) pYes (dAndV (d2 dNotN (dVar 6) (dC .non)) (d1 dNot (d3 dLe dLe (d1 dNeg (dC (.int 4000000))) (dVar 6) (dC (.int 4000000)))))) aNil))) [tp S (h + l.length), .int (h : Int), .int (kx k : Nat), .str k, .int (X.length : Int), LO X, .non] = rok false :=
    Eq.trans (or_f (t_to (Eq.trans (d2_to (b := .int (X.length : Int)) (len_to rfl) rfl) (ne_same _ rfl)))) (t_to (Eq.trans (call_1 cm) an))
  have sl := cut_S S h l.length x.len hS.n (ρ := [tp S (h + l.length), .int (h : Int), .int (kx k : Nat), .str k, .int (X.length : Int), LO X, .non]) (f := d1 (gAttr 4 0) (dVar 0)) (l := dVar 1) (u := d1 (gAttr 4 1) (dVar 0)) rfl rfl rfl
  rw [x.cut] at sl
  have g4 : dT (d2 dNe (dCall den_packed (aCons (dVar 3) (aCons (dVar 5) aNil))) (dSl sliceF (d1 (gAttr 4 0) (dVar 0)) (oSome (dVar 1)) (oSome (d1 (gAttr 4 1) (dVar 0))))) [tp S (h + l.length), .int (h : Int), .int (kx k : Nat), .str k, .int (X.length : Int), LO X, .non] = rok false :=
    t_to (Eq.trans (d2_to (Eq.trans (call_2 rfl rfl) hp) sl) (ne_same _ (strOk_01 h01)))
  have s5 : dSetX 5 (dXF 0 den_read_values (aCons (dVar 3) (aCons (dVar 4) aNil))) [tp S (h + 3 + 8), .int (h : Int), .int (kx k : Nat), .str k, .int (X.length : Int), .non, .non] = rok (.nx [tp S (h + l.length), .int (h : Int), .int (kx k : Nat), .str k, .int (X.length : Int), LO X, .non]) := by
    rw [hl]
    exact setX_to (ρ' := [tp S (h + 3 + 8 + tail.length), .int (h : Int), .int (kx k : Nat), .str k, .int (X.length : Int), .non, .non]) (xf_to (ds := [.str k, .int (X.length : Int)]) rfl rfl v)
  exact fnM_rt (Eq.trans (seq_nx (set_to (d := .int (h : Int)) rfl)) (Eq.trans (seq_nx (setX_to t1)) (Eq.trans (skip g1) (Eq.trans (seq_nx (set_to kk)) (Eq.trans (seq_nx (setX_to (xl_to t2 rfl (by rw [ev_add, show (X.length : Int) - 1 + 1 = (X.length : Int) by omega])))) (Eq.trans (skip g2) (Eq.trans (seq_nx s5) (Eq.trans (skip g3) (Eq.trans (skip g4) (retM_to (tup2_to rfl rfl) rfl))))))))))
end
end VL

set_option Elab.async false
set_option linter.all false
set_option maxRecDepth 100000
set_option maxHeartbeats 1000000
namespace VL
open PySem PySem.Spec PyProof.Rows L2
/-! ### all blocks -/
theorem newM_to {i : Nat} {f : List Dt → R Dt} {s : List Dt → R Fl} {ρ : List Dt} {d r : Dt} (h1 : f ρ = rok d) (h2 : s (ρ.set i d) = rok (.rt r)) : dNewM i f s ρ = rok (.rt r) := by
  unfold dNewM
  rw [h1, rbind_ok, h2, rbind_ok]
abbrev upT : List Dt → R Bool := dT (d2 dLt (d1 (gAttr 4 1) (dVar 1)) (dCall (one bLen) (aCons (dVar 0) aNil)))
structure PartOk (X : List (Option Int)) : Prop where
  ok : Okl X
  pt : Part X (lr X) (kd X)
  s : X.length ≤ 64
theorem PartOk.bits {X : List (Option Int)} (p : PartOk X) : den_packed [.str (kd X), LO X] = rok (BS (bitsOf X)) ∧ den_law_packed [.str (kd X), LO X] = rok (BS (bitsOf X)) ∧ ((bitsOf X).length : Int) = lr X ∧ is01 (bitsOf X) ∧ Lay (kd X) X (bitsOf X) := bits_part X p.ok p.s p.pt
theorem PartOk.pos {X : List (Option Int)} (p : PartOk X) : 1 ≤ (bitsOf X).length := by
  obtain ⟨t, e⟩ := lay_head p.bits.2.2.2.2
  rw [e, List.length_append, Hd_len]
  omega
section
variable {S : List Nat} (hS : Tape01 S)
include hS
theorem unp_while (x : Dt) : ∀ (P : List (List (Option Int))) (n h : Nat) (acc : List Dt), P.length < n → acc.length + P.length ≤ 1000 → (∀ X ∈ P, PartOk X) → At S h ((P.map bitsOf).flatten) →
    ∃ h', dWhile n upT (dAppendX 2 (dXF 1 den_read_block aNil)) [BS S, tp S h, .lst acc, x] = rok (.nx [BS S, tp S h', .lst (acc ++ P.map blkT), x])
  | [], n + 1, h, acc, _, _, _, a => by
    have e := congrArg List.length a.e
    rw [List.length_drop] at e
    have e : S.length - h = 0 := e
    have t : upT [BS S, tp S h, .lst acc, x] = rok false := by
      refine t_to (Eq.trans (d2_to (a := .int (h : Int)) rfl (Eq.trans (call_1 rfl) (bLen_S S (by have := hS.n; omega)))) ?_)
      rw [ev_lt, decide_eq_false (by omega)]
    exact ⟨h, by rw [List.map_nil, List.append_nil]; exact while_f t⟩
  | X :: P, n + 1, h, acc, hn, hl, hP, a => by
    rw [List.length_cons] at hn hl
    rw [List.map_cons, List.flatten_cons] at a
    have p := hP X List.mem_cons_self
    obtain ⟨b1, b2, b3, b4, b5⟩ := p.bits
    have hpos := p.pos
    have hlen := a.len
    have t : upT [BS S, tp S h, .lst acc, x] = rok true := by
      refine t_to (Eq.trans (d2_to (a := .int (h : Int)) rfl (Eq.trans (call_1 rfl) (bLen_S S (by have := hS.n; omega)))) ?_)
      rw [ev_lt, decide_eq_true (by omega)]
    have s : dAppendX 2 (dXF 1 den_read_block aNil) [BS S, tp S h, .lst acc, x] = rok (.nx [BS S, tp S (h + (bitsOf X).length), .lst (acc ++ [blkT X]), x]) :=
      appX_to (i := 2) (l := acc) (ρ' := [BS S, tp S (h + (bitsOf X).length), .lst acc, x]) (d := blkT X) (xf_to (i := 1) (ds := []) rfl rfl (block_at hS p.pt.kd p.ok b1 b5 b4 a)) rfl (by omega)
    obtain ⟨h', ih⟩ := unp_while x P n (h + (bitsOf X).length) (acc ++ [blkT X]) (by omega) (by rw [List.length_append, List.length_singleton]; omega) (fun Y hY => hP Y (List.mem_cons_of_mem _ hY)) a.next
    refine ⟨h', Eq.trans (while_t t s) (Eq.trans ih ?_)⟩
    rw [List.map_cons, List.append_assoc]
    rfl
end
theorem sign_in (c : Nat) (hc : c = 48 ∨ c = 49) {f : List Dt → R Dt} {ρ : List Dt} (h : f ρ = rok (.str ⟨#[c]⟩)) : d2 dIn f (dC (.str "01")) ρ = rok (.bl true) := by
  refine Eq.trans (d2_to h rfl) ?_
  rcases hc with rfl | rfl
  · rfl
  · rfl
theorem unpacked_ok (P : List (List (Option Int))) (hP : ∀ X ∈ P, PartOk X) (hn : P.length ≤ 64) (hl : ((P.map bitsOf).flatten).length ≤ 1000000) : den_unpacked [BS ((P.map bitsOf).flatten)] = rok (.lst (P.map blkT)) := by
  have h01 : is01 ((P.map bitsOf).flatten) := is01_flat fun y hy => by
    obtain ⟨X, hX, rfl⟩ := List.mem_map.mp hy
    exact (hP X hX).bits.2.2.2.1
  generalize hSS : (P.map bitsOf).flatten = S at h01 hl
  have hS : Tape01 S := ⟨h01, hl⟩
  obtain ⟨h', w⟩ := unp_while hS .non P 100 0 [] (by omega) (by rw [List.length_nil]; omega) hP ⟨Nat.zero_le _, by rw [hSS]; rfl⟩
  have c := comp_map (it := iStrD (dVar 0)) (set := setN 3) (p := pYes) (f := d2 dIn (dVar 3) (dC (.str "01"))) (ρ := [BS S, .non, .non, .non]) (fun c : Nat => Dt.str ⟨#[c]⟩) (fun _ => true) (fun _ => Dt.bl true) S rfl (by omega) (fun c hc => ⟨[BS S, .non, .non, .str ⟨#[c]⟩], rfl, rfl, fun _ => sign_in c (h01 c hc) rfl⟩)
  rw [filterT] at c
  have an : bAll (.lst (S.map fun _ => Dt.bl true)) = rok (.bl true) := by
    have e : (S.map fun _ => Dt.bl true) = (S.map fun _ => true).map Dt.bl := by rw [List.map_map]; rfl
    rw [e, bAll_to]
    have : (S.map fun _ => true).all id = true := by rw [List.all_map]; simp
    rw [this]
  exact fn_rt (Eq.trans (skip (not_to (b := true) (t_to (Eq.trans (call_1 c) an)))) (newM_to (new_to (ds := [BS S]) (args_1 rfl) (init_tape S) rfl) (Eq.trans (seq_nx (set_to (d := .lst []) rfl)) (Eq.trans (seq_nx w) (ret_to rfl rfl)))))
end VL

set_option Elab.async false
set_option linter.all false
set_option maxRecDepth 100000
set_option maxHeartbeats 1000000
namespace VL
open PySem PySem.Spec PyProof.Rows L2
/-! ### blocks of any kinds -/
structure Bk where
  k : Str
  X : List (Option Int)
  l : List Nat
def Bk.t (b : Bk) : Dt := .tup [.str b.k, LO b.X]
structure BkOk (b : Bk) : Prop where
  k : b.k ∈ kinds
  ok : Okl b.X
  s : b.X.length ≤ 64
  pk : den_packed [.str b.k, LO b.X] = rok (BS b.l)
  h01 : is01 b.l
  lay : Lay b.k b.X b.l
theorem BkOk.pos {b : Bk} (p : BkOk b) : 1 ≤ b.l.length := by
  obtain ⟨t, e⟩ := lay_head p.lay
  rw [e, List.length_append, Hd_len]
  omega
theorem lay_len {k : Str} {X : List (Option Int)} {l : List Nat} (hL : Lay k X l) (hX : X.length ≤ 64) : l.length ≤ 20000 := by
  have al : (aboves X).length = X.length := by unfold aboves; rw [List.length_map]
  cases hL with
  | plain =>
    have f := flat_len (X.map fun o => bl 24 (cd o)) 24 fun y hy => by obtain ⟨o, _, rfl⟩ := List.mem_map.mp hy; exact bl_len _ _
    rw [List.length_map] at f
    rw [List.length_append, Hd_len, f]
    omega
  | runs =>
    have f := flat_len ((runs X).map row) 32 fun y hy => by obtain ⟨o, _, rfl⟩ := List.mem_map.mp hy; exact row_len _
    rw [List.length_map] at f
    have := runs_len X
    rw [List.length_append, List.length_append, Hd_len, f, bl_len]
    omega
  | book _ w hw ew c =>
    have f := flat_len ((bk X).map fun o => bl 24 (cd o)) 24 fun y hy => by obtain ⟨o, _, rfl⟩ := List.mem_map.mp hy; exact bl_len _ _
    have f2 := flat_len (X.map fun o => bl w ((bk X).findIdx (fun z => decide (z = o)) : Nat)) w fun y hy => by obtain ⟨o, _, rfl⟩ := List.mem_map.mp hy; exact bl_len _ _
    rw [List.length_map] at f f2
    have m : X.length * w ≤ 64 * 99 := Nat.mul_le_mul hX hw
    rw [List.length_append, List.length_append, List.flatten_append, List.length_append, Hd_len, f, f2, bl_len]
    omega
  | base _ w hw ew =>
    have f := flat_len ((aboves X).map fun c => bl w c) w fun y hy => by obtain ⟨o, _, rfl⟩ := List.mem_map.mp hy; exact bl_len _ _
    rw [List.length_map, al] at f
    have m : X.length * w ≤ 64 * 99 := Nat.mul_le_mul hX hw
    rw [List.length_append, List.length_append, List.length_append, Hd_len, f, bl_len, bl_len]
    omega
  | steps M o ho w hw ew =>
    have f := flat_len ((stepsOf M).map fun c => bl w c) w fun y hy => by obtain ⟨o, _, rfl⟩ := List.mem_map.mp hy; exact bl_len _ _
    rw [List.length_map] at f hX
    have sl : (stepsOf M).length ≤ M.length := by unfold stepsOf; rw [List.length_map, List.length_range]; omega
    have m : (stepsOf M).length * w ≤ 64 * 99 := Nat.mul_le_mul (by omega) hw
    rw [List.length_append, List.length_append, List.length_append, Hd_len, f, bl_len, bl_len]
    omega
section
variable {S : List Nat} (hS : Tape01 S)
include hS
theorem bk_while (x : Dt) : ∀ (P : List Bk) (n h : Nat) (acc : List Dt), P.length < n → acc.length + P.length ≤ 1000 → (∀ b ∈ P, BkOk b) → At S h ((P.map Bk.l).flatten) →
    ∃ h', dWhile n upT (dAppendX 2 (dXF 1 den_read_block aNil)) [BS S, tp S h, .lst acc, x] = rok (.nx [BS S, tp S h', .lst (acc ++ P.map Bk.t), x])
  | [], n + 1, h, acc, _, _, _, a => by
    have e := congrArg List.length a.e
    rw [List.length_drop] at e
    have e : S.length - h = 0 := e
    have t : upT [BS S, tp S h, .lst acc, x] = rok false := by
      refine t_to (Eq.trans (d2_to (a := .int (h : Int)) rfl (Eq.trans (call_1 rfl) (bLen_S S (by have := hS.n; omega)))) ?_)
      rw [ev_lt, decide_eq_false (by omega)]
    exact ⟨h, by rw [List.map_nil, List.append_nil]; exact while_f t⟩
  | b :: P, n + 1, h, acc, hn, hl, hP, a => by
    rw [List.length_cons] at hn hl
    rw [List.map_cons, List.flatten_cons] at a
    have p := hP b List.mem_cons_self
    have hpos := p.pos
    have hlen := a.len
    have t : upT [BS S, tp S h, .lst acc, x] = rok true := by
      refine t_to (Eq.trans (d2_to (a := .int (h : Int)) rfl (Eq.trans (call_1 rfl) (bLen_S S (by have := hS.n; omega)))) ?_)
      rw [ev_lt, decide_eq_true (by omega)]
    have s : dAppendX 2 (dXF 1 den_read_block aNil) [BS S, tp S h, .lst acc, x] = rok (.nx [BS S, tp S (h + b.l.length), .lst (acc ++ [b.t]), x]) :=
      appX_to (i := 2) (l := acc) (ρ' := [BS S, tp S (h + b.l.length), .lst acc, x]) (d := b.t) (xf_to (i := 1) (ds := []) rfl rfl (block_at hS p.k p.ok p.pk p.lay p.h01 a)) rfl (by omega)
    obtain ⟨h', ih⟩ := bk_while x P n (h + b.l.length) (acc ++ [b.t]) (by omega) (by rw [List.length_append, List.length_singleton]; omega) (fun Y hY => hP Y (List.mem_cons_of_mem _ hY)) a.next
    refine ⟨h', Eq.trans (while_t t s) (Eq.trans ih ?_)⟩
    rw [List.map_cons, List.append_assoc]
    rfl
end
theorem bk_01 (P : List Bk) (hP : ∀ b ∈ P, BkOk b) : is01 ((P.map Bk.l).flatten) := is01_flat fun y hy => by
  obtain ⟨b, hb, rfl⟩ := List.mem_map.mp hy
  exact (hP b hb).h01
theorem bks_len (P : List Bk) (hP : ∀ b ∈ P, BkOk b) : ((P.map Bk.l).flatten).length ≤ P.length * 20000 := by
  induction P with
  | nil => simp
  | cons b P ih =>
    have h1 := lay_len (hP b List.mem_cons_self).lay (hP b List.mem_cons_self).s
    have h2 := ih fun c hc => hP c (List.mem_cons_of_mem _ hc)
    rw [List.map_cons, List.flatten_cons, List.length_append, List.length_cons, Nat.succ_mul]
    omega
theorem unpacked_bk (P : List Bk) (hP : ∀ b ∈ P, BkOk b) (hn : P.length ≤ 50) : den_unpacked [BS ((P.map Bk.l).flatten)] = rok (.lst (P.map Bk.t)) := by
  have h01 := bk_01 P hP
  have hl : ((P.map Bk.l).flatten).length ≤ 1000000 := Nat.le_trans (bks_len P hP) (Nat.mul_le_mul_right 20000 hn)
  generalize hSS : (P.map Bk.l).flatten = S at h01 hl
  have hS : Tape01 S := ⟨h01, hl⟩
  obtain ⟨h', w⟩ := bk_while hS .non P 100 0 [] (by omega) (by rw [List.length_nil]; omega) hP ⟨Nat.zero_le _, by rw [hSS]; rfl⟩
  have c := comp_map (it := iStrD (dVar 0)) (set := setN 3) (p := pYes) (f := d2 dIn (dVar 3) (dC (.str "01"))) (ρ := [BS S, .non, .non, .non]) (fun c : Nat => Dt.str ⟨#[c]⟩) (fun _ => true) (fun _ => Dt.bl true) S rfl (by omega) (fun c hc => ⟨[BS S, .non, .non, .str ⟨#[c]⟩], rfl, rfl, fun _ => sign_in c (h01 c hc) rfl⟩)
  rw [filterT] at c
  have an : bAll (.lst (S.map fun _ => Dt.bl true)) = rok (.bl true) := by
    have e : (S.map fun _ => Dt.bl true) = (S.map fun _ => true).map Dt.bl := by rw [List.map_map]; rfl
    rw [e, bAll_to]
    have : (S.map fun _ => true).all id = true := by rw [List.all_map]; simp
    rw [this]
  exact fn_rt (Eq.trans (skip (not_to (b := true) (t_to (Eq.trans (call_1 c) an)))) (newM_to (new_to (ds := [BS S]) (args_1 rfl) (init_tape S) rfl) (Eq.trans (seq_nx (set_to (d := .lst []) rfl)) (Eq.trans (seq_nx w) (ret_to rfl rfl)))))
end VL

set_option Elab.async false
set_option linter.all false
set_option maxRecDepth 100000
set_option maxHeartbeats 1000000
namespace VL
open PySem PySem.Spec PyProof.Rows L2
theorem orT_t {f1 f2 : List Dt → R Dt} {ρ : List Dt} {d : Dt} (h : f1 ρ = rok d) (t : tru d = rok true) : dOrT f1 f2 ρ = rok d := by unfold dOrT; rw [h, rbind_ok, t, rbind_ok, if_pos rfl]
theorem orT_f {f1 f2 : List Dt → R Dt} {ρ : List Dt} {d : Dt} (h : f1 ρ = rok d) (t : tru d = rok false) : dOrT f1 f2 ρ = f2 ρ := by unfold dOrT; rw [h, rbind_ok, t, rbind_ok, if_neg (by decide)]
abbrev kTxt : List Dt → R Dt := dLst (aCons (dC (.str "plain")) (aCons (dC (.str "runs")) (aCons (dC (.str "book")) (aCons (dC (.str "base")) (aCons (dC (.str "steps")) aNil)))))
theorem kind_ix (m : Int) {f : List Dt → R Dt} {ρ : List Dt} (h : f ρ = rok (.int (m % 5))) : ∃ k ∈ kinds, d2 dIx kTxt f ρ = rok (.str k) := by
  have h0 : 0 ≤ m % 5 := Int.emod_nonneg _ (by decide)
  have h1 : m % 5 < 5 := Int.emod_lt_of_pos _ (by decide)
  generalize m % 5 = z at h h0 h1
  have e : d2 dIx kTxt f ρ = dIx (.lst (kinds.map Dt.str)) (.int z) := d2_to rfl h
  have c : z = 0 ∨ z = 1 ∨ z = 2 ∨ z = 3 ∨ z = 4 := by omega
  rcases c with rfl | rfl | rfl | rfl | rfl
  · exact ⟨"plain", by decide +kernel, Eq.trans e rfl⟩
  · exact ⟨"runs", by decide +kernel, Eq.trans e rfl⟩
  · exact ⟨"book", by decide +kernel, Eq.trans e rfl⟩
  · exact ⟨"base", by decide +kernel, Eq.trans e rfl⟩
  · exact ⟨"steps", by decide +kernel, Eq.trans e rfl⟩
/-- the kind that is taken -/
theorem kind_at (X : List (Option Int)) (h : Okl X) (hs : X.length ≤ 64) (k : Str) (hk : k ∈ kinds) : ∃ r, den_law_room [.str k, LO X] = rok (OI r) ∧ ∃ b : Bk, BkOk b ∧ b.X = X ∧ b.k = (if r = none then ("runs" : Str) else k) ∧ den_law_packed [.str b.k, LO X] = rok (BS b.l) ∧ den_room [.str b.k, LO X] = rok (.int (b.l.length : Int)) := by
  obtain ⟨r, h1, h2⟩ := room_all X h k hk
  refine ⟨r, h1, ?_⟩
  have go : ∀ (k' : Str) (m : Int), k' ∈ kinds → den_room [.str k', LO X] = rok (.int m) → ∃ b : Bk, BkOk b ∧ b.X = X ∧ b.k = k' ∧ den_law_packed [.str b.k, LO X] = rok (BS b.l) ∧ den_room [.str b.k, LO X] = rok (.int (b.l.length : Int)) := fun k' m hk' hm => by
    obtain ⟨l, p1, p2, p3, p4, p5⟩ := pack_all X h hs k' hk' m hm
    exact ⟨⟨k', X, l⟩, ⟨hk', h, hs, p1, p4, p5⟩, rfl, rfl, p2, by rw [p3]; exact hm⟩
  cases r with
  | none => rw [if_pos rfl]; exact go "runs" _ (by decide +kernel) (room1 X h).2
  | some m => rw [if_neg (by simp)]; exact go k m hk h2
abbrev lB : List Dt → R Fl := dSeq (dSet 4 (dOrT (dCall den_law_values (aCons (dVar 0) (aCons (d2 dAdd (dC (.int 1)) (d2 dMul (dC (.int 20)) (dVar 3))) (aCons (dC (.int 10)) aNil)))) (dLst (aCons (dC .non) aNil)))) (dSeq (dSet 5 (d2 dIx kTxt (d2 dMod (dCall den_law_mix (aCons (dVar 0) (aCons (d2 dAdd (dC (.int 15)) (d2 dMul (dC (.int 20)) (dVar 3))) aNil))) (dC (.int 5))))) (dSeq (dIfS (dT (d2 dIsN (dCall den_law_room (aCons (dVar 5) (aCons (dVar 4) aNil))) (dC .non))) (dSet 5 (dC (.str "runs"))) dNext) (dSeq (dSet 6 (dCall (one bList) (aCons (dVar 4) aNil))) (dSeq (dSet 7 (dCall den_packed (aCons (dVar 5) (aCons (dVar 6) aNil)))) (dSeq (dIfS (pOr (dT (d2 dNe (dVar 7) (dCall den_law_packed (aCons (dVar 5) (aCons (dVar 4) aNil))))) (pOr (dT (d2 dNe (dCall (one bLen) (aCons (dVar 7) aNil)) (dCall den_room (aCons (dVar 5) (aCons (dVar 6) aNil))))) (dT (d2 dNe (dVar 6) (dVar 4))))) (dRet .flat (dC (.bl false))) dNext) (dSeq (dSet 1 (d2 dAdd (dVar 1) (dVar 7))) (dAppend 2 (dTup (aCons (dVar 5) (aCons (dVar 4) aNil))))))))))
theorem vals_any (ns : List Int) (k : Int) (most : Nat) (hk : 0 ≤ k ∧ k < 2 ^ 40) (hm : most ≤ 60) (h1 : 1 ≤ most) {ρ : List Dt} {f : List Dt → R Dt} (e : f ρ = den_law_values [.scr ns, .int k, .int most]) : ∃ X, dOrT f (dLst (aCons (dC .non) aNil)) ρ = rok (LO X) ∧ X.length ≤ most ∧ Okl X := by
  obtain ⟨L, e1, hl, hv⟩ := den_values ns k most hk hm
  cases L with
  | nil =>
    refine ⟨[none], Eq.trans (orT_f (Eq.trans e e1) rfl) rfl, h1, ⟨Nat.le_refl _, by decide, fun o ho => ?_⟩⟩
    rw [List.mem_singleton.mp ho]
    exact fun i hi => by cases hi
  | cons o L => exact ⟨o :: L, orT_t (Eq.trans e e1) rfl, hl, ⟨by rw [List.length_cons]; omega, by omega, hv⟩⟩
theorem l_block (ns : List Int) (i : Nat) (hi : i < 1000) (P : List Bk) (hP : ∀ b ∈ P, BkOk b) (hn : P.length ≤ 40) (x4 x5 x6 x7 : Dt) (a b c : Dt) :
    ∃ q v k h s, lB [.scr ns, BS ((P.map Bk.l).flatten), .lst (P.map Bk.t), .int (i : Int), x4, x5, x6, x7, a, b, c] = rok (.nx [.scr ns, BS (((P ++ [q]).map Bk.l).flatten), .lst ((P ++ [q]).map Bk.t), .int (i : Int), v, k, h, s, a, b, c]) ∧ BkOk q := by
  obtain ⟨X, e4, hl, hX⟩ := vals_any ns (1 + 20 * (i : Int)) 10 (by omega) (by decide) (by decide) (ρ := [.scr ns, BS ((P.map Bk.l).flatten), .lst (P.map Bk.t), .int (i : Int), x4, x5, x6, x7, a, b, c]) (f := dCall den_law_values (aCons (dVar 0) (aCons (d2 dAdd (dC (.int 1)) (d2 dMul (dC (.int 20)) (dVar 3))) (aCons (dC (.int 10)) aNil))))
    (call_3 rfl (Eq.trans (d2_to rfl (Eq.trans (d2_to rfl rfl) (ev_mulL _ _ (by decide)))) (ev_add _ _)) rfl)
  have mx : d2 dMod (dCall den_law_mix (aCons (dVar 0) (aCons (d2 dAdd (dC (.int 15)) (d2 dMul (dC (.int 20)) (dVar 3))) aNil))) (dC (.int 5)) [.scr ns, BS ((P.map Bk.l).flatten), .lst (P.map Bk.t), .int (i : Int), LO X, x5, x6, x7, a, b, c] = rok (.int (mixN ns (15 + 20 * (i : Int)) % 5)) :=
    Eq.trans (d2_to (Eq.trans (call_2 rfl (Eq.trans (d2_to rfl (Eq.trans (d2_to rfl rfl) (ev_mulL _ _ (by decide)))) (ev_add _ _))) (den_mix ns _ (by omega))) rfl) (ev_mod _ _ (by decide))
  obtain ⟨k, hk, e5⟩ := kind_ix _ mx
  obtain ⟨r, lr, q, qo, qX, qk, lp, rm⟩ := kind_at X hX (by omega) k hk
  have h5 : dIfS (dT (d2 dIsN (dCall den_law_room (aCons (dVar 5) (aCons (dVar 4) aNil))) (dC .non))) (dSet 5 (dC (.str "runs"))) dNext [.scr ns, BS ((P.map Bk.l).flatten), .lst (P.map Bk.t), .int (i : Int), LO X, .str k, x6, x7, a, b, c] = rok (.nx [.scr ns, BS ((P.map Bk.l).flatten), .lst (P.map Bk.t), .int (i : Int), LO X, .str q.k, x6, x7, a, b, c]) := by
    have t := t_to (Eq.trans (d2_to (Eq.trans (call_2 (ρ := [.scr ns, BS ((P.map Bk.l).flatten), .lst (P.map Bk.t), .int (i : Int), LO X, .str k, x6, x7, a, b, c]) (f1 := dVar 5) (f2 := dVar 4) rfl rfl) lr) (show dC .non _ = rok .non from rfl)) (ev_isN _))
    rw [isNon_OI] at t
    cases r with
    | none => rw [qk, if_pos rfl]; exact Eq.trans (ifS_t t) rfl
    | some m => rw [qk, if_neg (by simp)]; exact Eq.trans (ifS_f t) rfl
  have bk := bks_len P hP
  have bq := lay_len qo.lay qo.s
  have pk := qo.pk
  rw [qX] at pk
  have s01 := strOk_01 qo.h01
  have bound : ((P.map Bk.l).flatten).length + q.l.length ≤ 16777216 := by
    have : P.length * 20000 ≤ 40 * 20000 := Nat.mul_le_mul_right _ hn
    omega
  refine ⟨q, LO X, .str q.k, LO X, BS q.l, Eq.trans (seq_nx (set_to e4)) (Eq.trans (seq_nx (set_to e5)) (Eq.trans (seq_nx h5) (Eq.trans (seq_nx (set_to (Eq.trans (call_1 rfl) rfl))) (Eq.trans (seq_nx (set_to (Eq.trans (call_2 rfl rfl) pk))) (Eq.trans (skip (Eq.trans (or_f ?_) (Eq.trans (or_f ?_) ?_))) (Eq.trans (seq_nx (set_to (Eq.trans (d2_to rfl rfl) (cat_S _ _ bound)))) (Eq.trans (app_to (l := P.map Bk.t) (tup2_to rfl rfl) rfl (by rw [List.length_map]; omega)) ?_))))))), qo⟩
  · exact t_to (Eq.trans (d2_to rfl (Eq.trans (call_2 rfl rfl) lp)) (ne_same _ s01))
  · exact t_to (Eq.trans (d2_to (Eq.trans (call_1 rfl) (bLen_S _ (by omega))) (Eq.trans (call_2 rfl rfl) rm)) (ne_same _ rfl))
  · exact t_to (Eq.trans (d2_to (a := LO X) (b := LO X) rfl rfl) (ne_same _ (okN_LOI _ _)))
  · rw [List.map_append, List.map_append, List.flatten_append, List.map_cons, List.map_nil, List.flatten_cons, List.flatten_nil, List.append_nil, List.map_cons, List.map_nil]
    unfold Bk.t
    rw [qX]
    rfl
theorem bk_okN (P : List Bk) (hP : ∀ b ∈ P, BkOk b) : okN 8 (.lst (P.map Bk.t)) = true := okN_lst fun d hd => by
  obtain ⟨b, hb, rfl⟩ := List.mem_map.mp hd
  unfold Bk.t
  rw [okN, List.all_cons, List.all_cons, List.all_nil, Bool.and_true, Bool.and_eq_true]
  exact ⟨strOk_kinds b.k (hP b hb).k, okN_LOI _ _⟩
theorem bk_tell (P : List Bk) (hP : ∀ b ∈ P, BkOk b) (hn : P.length ≤ 50) : tellOk (.lst (P.map Bk.t)) = true := by
  show (P.map Bk.t).all (tellOk1 (P.map Bk.t).length) = true
  rw [List.all_eq_true]
  intro d hd
  obtain ⟨b, hb, rfl⟩ := List.mem_map.mp hd
  show ((b.X.map OI).all isFlat && decide ((b.X.map OI).length + (P.map Bk.t).length < 16777216)) = true
  have := (hP b hb).s
  rw [flat_OI, Bool.true_and, List.length_map, List.length_map]
  exact decide_eq_true (by omega)
abbrev alP : List Dt → R Bool := pNot (dT (dCall (one bAll) (aCons (dComp (iLst (dVar 9)) (setN 10) pYes (dAndV (d1 (bIsi "tuple") (dVar 10)) (d1 (bIsi "list") (d2 dIx (dVar 10) (dC (.int 1)))))) aNil)))
theorem told_all (P : List Bk) (hn : P.length ≤ 50) (s x1 x2 x3 x4 x5 x6 x7 x8 x10 : Dt) : alP [s, x1, x2, x3, x4, x5, x6, x7, x8, .lst (P.map Bk.t), x10] = rok false := by
  have c := comp_map (it := iLst (dVar 9)) (set := setN 10) (p := pYes) (f := dAndV (d1 (bIsi "tuple") (dVar 10)) (d1 (bIsi "list") (d2 dIx (dVar 10) (dC (.int 1))))) (ρ := [s, x1, x2, x3, x4, x5, x6, x7, x8, .lst (P.map Bk.t), x10]) Bk.t (fun _ => true) (fun _ => Dt.bl true) P (lst_to rfl) (by omega) (fun b _ => ⟨[s, x1, x2, x3, x4, x5, x6, x7, x8, .lst (P.map Bk.t), b.t], rfl, rfl, fun _ => rfl⟩)
  rw [filterT] at c
  have an : bAll (.lst (P.map fun _ => Dt.bl true)) = rok (.bl true) := by
    have e : (P.map fun _ => Dt.bl true) = (P.map fun _ => true).map Dt.bl := by rw [List.map_map]; rfl
    rw [e, bAll_to]
    have : (P.map fun _ => true).all id = true := by rw [List.all_map]; simp
    rw [this]
  exact not_to (b := true) (t_to (Eq.trans (call_1 c) an))
theorem tell_to {i : Nat} {h : List Dt → R Dt} {fs : List Dt → R (List Dt)} {p : List Dt → R Bool} {sb : List Dt → R Fl} {ρ ds : List Dt} {d : Dt} (h1 : fs ρ = rok ds) (h2 : ds.all isFlat = true) (h3 : h ds = rok d) (h4 : p (ρ.set i d) = rok false) (h5 : tellOk d = true) : dTell i h fs p sb ρ = rok (.nx (ρ.set i d)) := by
  unfold dTell
  rw [h1, rbind_ok, if_pos h2, h3, rbind_ok, h4, rbind_ok, if_neg (by decide), if_pos h5]
theorem main (ns : List Int) (h : ns.length ≤ 63) : den_law [.scr ns] = rok (.bl true) := by
  have m0 : 0 ≤ mixN ns 0 % 5 ∧ mixN ns 0 % 5 < 5 := ⟨Int.emod_nonneg _ (by decide), Int.emod_lt_of_pos _ (by decide)⟩
  have hr : iRng (aCons (d2 dMod (dCall den_law_mix (aCons (dVar 0) (aCons (dC (.int 0)) aNil))) (dC (.int 5))) aNil) rng1 [.scr ns, .str "", .lst [], .non, .non, .non, .non, .non, .non, .non, .non] = rok ((List.range (mixN ns 0 % 5).toNat).map fun i : Nat => Dt.int (0 + (i : Int))) := by
    rw [iRng1_to (a := mixN ns 0 % 5) (Eq.trans (d2_to (Eq.trans (call_2 rfl rfl) (den_mix ns 0 (by decide))) rfl) (ev_mod _ _ (by decide))) (by omega), rng_eq]
  obtain ⟨ρ', h1, P, x3, x4, x5, x6, x7, hP, hl, h2⟩ := forL_inv (set := setN 3) (s := lB) (fun i : Nat => Dt.int (0 + (i : Int))) (fun pre ρ => ∃ (P : List Bk) (x3 x4 x5 x6 x7 : Dt), (∀ b ∈ P, BkOk b) ∧ P.length = pre.length ∧ ρ = [.scr ns, BS ((P.map Bk.l).flatten), .lst (P.map Bk.t), x3, x4, x5, x6, x7, .non, .non, .non]) (List.range (mixN ns 0 % 5).toNat) [] [.scr ns, .str "", .lst [], .non, .non, .non, .non, .non, .non, .non, .non] ⟨[], .non, .non, .non, .non, .non, (fun _ z => by cases z), rfl, by rw [str_nil]; rfl⟩ (by
    rintro pre i post ρ e ⟨P, x3, x4, x5, x6, x7, hP, hl, rfl⟩
    rw [List.nil_append] at e
    have hlt : i < (mixN ns 0 % 5).toNat := List.mem_range.mp (by rw [e]; simp)
    have hpl : pre.length ≤ 5 := by have := congrArg List.length e; simp at this; omega
    have e0 : (0 : Int) + (i : Int) = (i : Int) := by omega
    obtain ⟨q, v, k, h, s, hq, qo⟩ := l_block ns i (by omega) P hP (by omega) x4 x5 x6 x7 .non .non .non
    refine ⟨_, _, by rw [e0]; rfl, hq, P ++ [q], _, _, _, _, _, fun b hb => ?_, ?_, rfl⟩
    · rcases List.mem_append.mp hb with hb | hb
      · exact hP b hb
      · rw [List.mem_singleton.mp hb]; exact qo
    · rw [List.length_append, List.length_append, hl]; rfl)
  subst h2
  rw [List.nil_append, List.length_range] at hl
  have hn : P.length ≤ 50 := by omega
  have hr2 : iRng (aCons (dC (.int 2)) aNil) rng1 [.scr ns, BS ((P.map Bk.l).flatten), .lst (P.map Bk.t), x3, x4, x5, x6, x7, .non, .non, .non] = rok ((List.range 2).map fun i : Nat => Dt.int (0 + (i : Int))) := by
    rw [iRng1_to (a := 2) rfl (by decide), rng_eq]; rfl
  obtain ⟨ρ', h3, y8, y9, h4⟩ := forL_inv (set := setN 8) (s := dTell 9 den_unpacked (aCons (dVar 1) aNil) (pOr (dT (d2 dNe (dVar 9) (dVar 2))) alP) (dRet .flat (dC (.bl false)))) (fun i : Nat => Dt.int (0 + (i : Int))) (fun pre ρ => ∃ (y8 y9 : Dt), ρ = [.scr ns, BS ((P.map Bk.l).flatten), .lst (P.map Bk.t), x3, x4, x5, x6, x7, y8, y9, .non]) (List.range 2) [] [.scr ns, BS ((P.map Bk.l).flatten), .lst (P.map Bk.t), x3, x4, x5, x6, x7, .non, .non, .non] ⟨_, _, rfl⟩ (by
    rintro pre i post ρ e ⟨y8, y9, rfl⟩
    refine ⟨_, _, rfl, tell_to (ds := [BS ((P.map Bk.l).flatten)]) (d := .lst (P.map Bk.t)) (args_1 rfl) rfl (unpacked_bk P hP hn) (Eq.trans (or_f ?_) (told_all P hn _ _ _ _ _ _ _ _ _ _)) (bk_tell P hP hn), _, _, rfl⟩
    exact t_to (Eq.trans (d2_to (a := .lst (P.map Bk.t)) (b := .lst (P.map Bk.t)) rfl rfl) (ne_same _ (bk_okN P hP))))
  subst h4
  exact fn_rt (Eq.trans (seq_nx (set_to rfl)) (Eq.trans (seq_nx (set_to (d := .lst []) rfl)) (Eq.trans (seq_nx (Eq.trans (for_to hr) h1)) (Eq.trans (seq_nx (Eq.trans (for_to hr2) h3)) (ret_to rfl rfl)))))
end VL

set_option Elab.async false
set_option linter.all false
set_option maxRecDepth 100000
set_option maxHeartbeats 4000000
namespace VL
open PySem PySem.Spec PyProof.Rows L2
def top (i : Nat) : Stmt := PySem.Challenge.pw_tightrows_k02_whole_packed.main.body.getD i (.Pass ⟨0, 0, 0, 0⟩)
abbrev s_width : Stmt := top 6
abbrev N_width : List Str := ["number", "found"]
theorem sc_width : FnScope N_width ["number"] (defScope s_width) := ⟨rfl, rfl, rfl, by decide +kernel, rfl, by decide +kernel, by decide +kernel⟩
abbrev s_bits_of : Stmt := top 7
abbrev N_bits_of : List Str := ["number", "many", "found", "k"]
theorem sc_bits_of : FnScope N_bits_of ["number", "many"] (defScope s_bits_of) := ⟨rfl, rfl, rfl, by decide +kernel, rfl, by decide +kernel, by decide +kernel⟩
abbrev s_Tape_init : Stmt := inClass (top 8) 0
abbrev N_Tape_init : List Str := ["self", "bits"]
theorem sc_Tape_init : FnScope N_Tape_init ["self", "bits"] (defScope s_Tape_init) := ⟨rfl, rfl, rfl, by decide +kernel, rfl, by decide +kernel, by decide +kernel⟩
abbrev s_Tape_take : Stmt := inClass (top 8) 1
abbrev N_Tape_take : List Str := ["self", "many", "found", "sign"]
theorem sc_Tape_take : FnScope N_Tape_take ["self", "many"] (defScope s_Tape_take) := ⟨rfl, rfl, rfl, by decide +kernel, rfl, by decide +kernel, by decide +kernel⟩
abbrev s_look_values : Stmt := top 16
abbrev N_look_values : List Str := ["values", "value"]
theorem sc_look_values : FnScope N_look_values ["values"] (defScope s_look_values) := ⟨rfl, rfl, rfl, by decide +kernel, rfl, by decide +kernel, by decide +kernel⟩
abbrev s_code : Stmt := top 17
abbrev N_code : List Str := ["value"]
theorem sc_code : FnScope N_code ["value"] (defScope s_code) := ⟨rfl, rfl, rfl, by decide +kernel, rfl, by decide +kernel, by decide +kernel⟩
abbrev s_value_of : Stmt := top 18
abbrev N_value_of : List Str := ["number"]
theorem sc_value_of : FnScope N_value_of ["number"] (defScope s_value_of) := ⟨rfl, rfl, rfl, by decide +kernel, rfl, by decide +kernel, by decide +kernel⟩
abbrev s_runs_of : Stmt := top 19
abbrev N_runs_of : List Str := ["values", "found", "value"]
theorem sc_runs_of : FnScope N_runs_of ["values"] (defScope s_runs_of) := ⟨rfl, rfl, rfl, by decide +kernel, rfl, by decide +kernel, by decide +kernel⟩
abbrev s_book_of : Stmt := top 20
abbrev N_book_of : List Str := ["values", "found", "value"]
theorem sc_book_of : FnScope N_book_of ["values"] (defScope s_book_of) := ⟨rfl, rfl, rfl, by decide +kernel, rfl, by decide +kernel, by decide +kernel⟩
abbrev s_base_of : Stmt := top 21
abbrev N_base_of : List Str := ["values", "value"]
theorem sc_base_of : FnScope N_base_of ["values"] (defScope s_base_of) := ⟨rfl, rfl, rfl, by decide +kernel, rfl, by decide +kernel, by decide +kernel⟩
abbrev s_base_codes : Stmt := top 22
abbrev N_base_codes : List Str := ["values", "base", "value"]
theorem sc_base_codes : FnScope N_base_codes ["values"] (defScope s_base_codes) := ⟨rfl, rfl, rfl, by decide +kernel, rfl, by decide +kernel, by decide +kernel⟩
abbrev s_step_codes : Stmt := top 23
abbrev N_step_codes : List Str := ["values", "found", "k", "step"]
theorem sc_step_codes : FnScope N_step_codes ["values"] (defScope s_step_codes) := ⟨rfl, rfl, rfl, by decide +kernel, rfl, by decide +kernel, by decide +kernel⟩
abbrev s_widest : Stmt := top 24
abbrev N_widest : List Str := ["codes"]
theorem sc_widest : FnScope N_widest ["codes"] (defScope s_widest) := ⟨rfl, rfl, rfl, by decide +kernel, rfl, by decide +kernel, by decide +kernel⟩
abbrev s_room : Stmt := top 25
abbrev N_room : List Str := ["kind", "values", "many", "words", "codes"]
theorem sc_room : FnScope N_room ["kind", "values"] (defScope s_room) := ⟨rfl, rfl, rfl, by decide +kernel, rfl, by decide +kernel, by decide +kernel⟩
abbrev s_packed : Stmt := top 26
abbrev N_packed : List Str := ["kind", "values", "head", "some", "rows", "words", "many", "codes", "first", "value", "one"]
theorem sc_packed : FnScope N_packed ["kind", "values"] (defScope s_packed) := ⟨rfl, rfl, rfl, by decide +kernel, rfl, by decide +kernel, by decide +kernel⟩
abbrev s_need_value : Stmt := top 27
abbrev N_need_value : List Str := ["tape"]
theorem sc_need_value : FnScope N_need_value ["tape"] (defScope s_need_value) := ⟨rfl, rfl, rfl, by decide +kernel, rfl, by decide +kernel, by decide +kernel⟩
abbrev s_read_runs : Stmt := top 28
abbrev N_read_runs : List Str := ["tape", "many", "found", "k", "value"]
theorem sc_read_runs : FnScope N_read_runs ["tape", "many"] (defScope s_read_runs) := ⟨rfl, rfl, rfl, by decide +kernel, rfl, by decide +kernel, by decide +kernel⟩
abbrev s_read_book : Stmt := top 29
abbrev N_read_book : List Str := ["tape", "many", "words", "found", "k", "number"]
theorem sc_read_book : FnScope N_read_book ["tape", "many"] (defScope s_read_book) := ⟨rfl, rfl, rfl, by decide +kernel, rfl, by decide +kernel, by decide +kernel⟩
abbrev s_read_base : Stmt := top 30
abbrev N_read_base : List Str := ["tape", "many", "base", "bits", "codes", "k", "one"]
theorem sc_read_base : FnScope N_read_base ["tape", "many"] (defScope s_read_base) := ⟨rfl, rfl, rfl, by decide +kernel, rfl, by decide +kernel, by decide +kernel⟩
abbrev s_read_steps : Stmt := top 31
abbrev N_read_steps : List Str := ["tape", "many", "found", "bits", "k", "one"]
theorem sc_read_steps : FnScope N_read_steps ["tape", "many"] (defScope s_read_steps) := ⟨rfl, rfl, rfl, by decide +kernel, rfl, by decide +kernel, by decide +kernel⟩
abbrev s_read_values : Stmt := top 32
abbrev N_read_values : List Str := ["tape", "kind", "many", "k"]
theorem sc_read_values : FnScope N_read_values ["tape", "kind", "many"] (defScope s_read_values) := ⟨rfl, rfl, rfl, by decide +kernel, rfl, by decide +kernel, by decide +kernel⟩
abbrev s_read_block : Stmt := top 33
abbrev N_read_block : List Str := ["tape", "begin", "number", "kind", "many", "values", "value"]
theorem sc_read_block : FnScope N_read_block ["tape"] (defScope s_read_block) := ⟨rfl, rfl, rfl, by decide +kernel, rfl, by decide +kernel, by decide +kernel⟩
abbrev s_unpacked : Stmt := top 34
abbrev N_unpacked : List Str := ["bits", "tape", "found", "sign"]
theorem sc_unpacked : FnScope N_unpacked ["bits"] (defScope s_unpacked) := ⟨rfl, rfl, rfl, by decide +kernel, rfl, by decide +kernel, by decide +kernel⟩
abbrev s_law_cell : Stmt := top 36
abbrev N_law_cell : List Str := ["_law_script", "_law_k"]
theorem sc_law_cell : FnScope N_law_cell ["_law_script", "_law_k"] (defScope s_law_cell) := ⟨rfl, rfl, rfl, by decide +kernel, rfl, by decide +kernel, by decide +kernel⟩
abbrev s_law_mix : Stmt := top 37
abbrev N_law_mix : List Str := ["_law_script", "_law_k", "_law_number"]
theorem sc_law_mix : FnScope N_law_mix ["_law_script", "_law_k"] (defScope s_law_mix) := ⟨rfl, rfl, rfl, by decide +kernel, rfl, by decide +kernel, by decide +kernel⟩
abbrev s_law_value : Stmt := top 38
abbrev N_law_value : List Str := ["_law_script", "_law_k", "_law_number", "_law_some"]
theorem sc_law_value : FnScope N_law_value ["_law_script", "_law_k"] (defScope s_law_value) := ⟨rfl, rfl, rfl, by decide +kernel, rfl, by decide +kernel, by decide +kernel⟩
abbrev s_law_values : Stmt := top 39
abbrev N_law_values : List Str := ["_law_script", "_law_k", "_law_most", "_law_found", "_law_way", "_law_number", "_law_value_here"]
theorem sc_law_values : FnScope N_law_values ["_law_script", "_law_k", "_law_most"] (defScope s_law_values) := ⟨rfl, rfl, rfl, by decide +kernel, rfl, by decide +kernel, by decide +kernel⟩
abbrev s_law_need : Stmt := top 40
abbrev N_law_need : List Str := ["_law_number", "_law_found"]
theorem sc_law_need : FnScope N_law_need ["_law_number"] (defScope s_law_need) := ⟨rfl, rfl, rfl, by decide +kernel, rfl, by decide +kernel, by decide +kernel⟩
abbrev s_law_runs : Stmt := top 41
abbrev N_law_runs : List Str := ["_law_values_here", "_law_k"]
theorem sc_law_runs : FnScope N_law_runs ["_law_values_here"] (defScope s_law_runs) := ⟨rfl, rfl, rfl, by decide +kernel, rfl, by decide +kernel, by decide +kernel⟩
abbrev s_law_book : Stmt := top 42
abbrev N_law_book : List Str := ["_law_values_here", "_law_k"]
theorem sc_law_book : FnScope N_law_book ["_law_values_here"] (defScope s_law_book) := ⟨rfl, rfl, rfl, by decide +kernel, rfl, by decide +kernel, by decide +kernel⟩
abbrev s_law_above : Stmt := top 43
abbrev N_law_above : List Str := ["_law_values_here", "_law_some", "_law_value_here"]
theorem sc_law_above : FnScope N_law_above ["_law_values_here"] (defScope s_law_above) := ⟨rfl, rfl, rfl, by decide +kernel, rfl, by decide +kernel, by decide +kernel⟩
abbrev s_law_steps : Stmt := top 44
abbrev N_law_steps : List Str := ["_law_values_here", "_law_found", "_law_k", "_law_step"]
theorem sc_law_steps : FnScope N_law_steps ["_law_values_here"] (defScope s_law_steps) := ⟨rfl, rfl, rfl, by decide +kernel, rfl, by decide +kernel, by decide +kernel⟩
abbrev s_law_room : Stmt := top 45
abbrev N_law_room : List Str := ["_law_kind", "_law_values_here", "_law_many", "_law_words"]
theorem sc_law_room : FnScope N_law_room ["_law_kind", "_law_values_here"] (defScope s_law_room) := ⟨rfl, rfl, rfl, by decide +kernel, rfl, by decide +kernel, by decide +kernel⟩
abbrev s_law_bits : Stmt := top 46
abbrev N_law_bits : List Str := ["_law_number", "_law_many", "_law_found"]
theorem sc_law_bits : FnScope N_law_bits ["_law_number", "_law_many"] (defScope s_law_bits) := ⟨rfl, rfl, rfl, by decide +kernel, rfl, by decide +kernel, by decide +kernel⟩
abbrev s_law_plain : Stmt := top 47
abbrev N_law_plain : List Str := ["_law_value_here"]
theorem sc_law_plain : FnScope N_law_plain ["_law_value_here"] (defScope s_law_plain) := ⟨rfl, rfl, rfl, by decide +kernel, rfl, by decide +kernel, by decide +kernel⟩
abbrev s_law_packed : Stmt := top 48
abbrev N_law_packed : List Str := ["_law_kind", "_law_values_here", "_law_number", "_law_head", "_law_starts", "_law_rows", "_law_k", "_law_many", "_law_words", "_law_codes", "_law_first", "_law_value_here", "_law_word", "_law_one"]
theorem sc_law_packed : FnScope N_law_packed ["_law_kind", "_law_values_here"] (defScope s_law_packed) := ⟨rfl, rfl, rfl, by decide +kernel, rfl, by decide +kernel, by decide +kernel⟩
abbrev s_law : Stmt := top 49
abbrev N_law : List Str := ["_law_script", "_law_found", "_law_due", "_law_k", "_law_values_here", "_law_kind", "_law_handed", "_law_bits_here", "_law_turn", "_law_told", "_law_one"]
theorem sc_law : FnScope N_law ["_law_script"] (defScope s_law) := ⟨rfl, rfl, rfl, by decide +kernel, rfl, by decide +kernel, by decide +kernel⟩
/-- where things stand -/
structure Ad where
  a_width : Addr
  d_width : FuncData
  a_bits_of : Addr
  d_bits_of : FuncData
  a_Tape_init : Addr
  d_Tape_init : FuncData
  a_Tape_take : Addr
  d_Tape_take : FuncData
  a_look_values : Addr
  d_look_values : FuncData
  a_code : Addr
  d_code : FuncData
  a_value_of : Addr
  d_value_of : FuncData
  a_runs_of : Addr
  d_runs_of : FuncData
  a_book_of : Addr
  d_book_of : FuncData
  a_base_of : Addr
  d_base_of : FuncData
  a_base_codes : Addr
  d_base_codes : FuncData
  a_step_codes : Addr
  d_step_codes : FuncData
  a_widest : Addr
  d_widest : FuncData
  a_room : Addr
  d_room : FuncData
  a_packed : Addr
  d_packed : FuncData
  a_need_value : Addr
  d_need_value : FuncData
  a_read_runs : Addr
  d_read_runs : FuncData
  a_read_book : Addr
  d_read_book : FuncData
  a_read_base : Addr
  d_read_base : FuncData
  a_read_steps : Addr
  d_read_steps : FuncData
  a_read_values : Addr
  d_read_values : FuncData
  a_read_block : Addr
  d_read_block : FuncData
  a_unpacked : Addr
  d_unpacked : FuncData
  a_law_cell : Addr
  d_law_cell : FuncData
  a_law_mix : Addr
  d_law_mix : FuncData
  a_law_value : Addr
  d_law_value : FuncData
  a_law_values : Addr
  d_law_values : FuncData
  a_law_need : Addr
  d_law_need : FuncData
  a_law_runs : Addr
  d_law_runs : FuncData
  a_law_book : Addr
  d_law_book : FuncData
  a_law_above : Addr
  d_law_above : FuncData
  a_law_steps : Addr
  d_law_steps : FuncData
  a_law_room : Addr
  d_law_room : FuncData
  a_law_bits : Addr
  d_law_bits : FuncData
  a_law_plain : Addr
  d_law_plain : FuncData
  a_law_packed : Addr
  d_law_packed : FuncData
  a_law : Addr
  d_law : FuncData
  x_RowsError : Addr
  x_BadValue : Addr
  x_NoPacking : Addr
  x_BadBits : Addr
  y_Tape : Addr
def oNs : List (List Str) := [["kind", "long", "first", "codes"], ["kind", "long", "runs"], ["kind", "long", "words", "codes"], ["blocks"], ["signs", "here"]]
def cfg (A : Ad) : Cfg := ⟨fun n => [A.x_RowsError, A.x_BadValue, A.x_NoPacking, A.x_BadBits].getD n 0, fun n => ([0, 0, 0, 0, A.y_Tape] : List Addr).getD n 0, fun n => oNs.getD n []⟩
/-- what the top has written -/
structure Txt (K : PySem.W.Frag) (w : World) (mg : Str → Option Value) (A : Ad) : Prop where
  m_width : mg "width" = some (.ref A.a_width)
  k_width : PySem.W.keepIn K (.ref A.a_width) = true
  f_width : Fun K "width" "width" s_width A.a_width A.d_width
  b_width : Binds K A.d_width ["number"] []
  m_bits_of : mg "bits_of" = some (.ref A.a_bits_of)
  k_bits_of : PySem.W.keepIn K (.ref A.a_bits_of) = true
  f_bits_of : Fun K "bits_of" "bits_of" s_bits_of A.a_bits_of A.d_bits_of
  b_bits_of : Binds K A.d_bits_of ["number", "many"] []
  N_Tape : Mk K ((cfg A).oC 4) A.a_Tape_init
  k_Tape_init : PySem.W.keepIn K (.ref A.a_Tape_init) = true
  f_Tape_init : Fun K "__init__" "Tape.__init__" s_Tape_init A.a_Tape_init A.d_Tape_init
  b_Tape_init : Binds K A.d_Tape_init ["self", "bits"] []
  M_Tape_take : Meth K ((cfg A).oC 4) "take" A.a_Tape_take
  k_Tape_take : PySem.W.keepIn K (.ref A.a_Tape_take) = true
  f_Tape_take : Fun K "take" "Tape.take" s_Tape_take A.a_Tape_take A.d_Tape_take
  b_Tape_take : Binds K A.d_Tape_take ["self", "many"] []
  m_look_values : mg "look_values" = some (.ref A.a_look_values)
  k_look_values : PySem.W.keepIn K (.ref A.a_look_values) = true
  f_look_values : Fun K "look_values" "look_values" s_look_values A.a_look_values A.d_look_values
  b_look_values : Binds K A.d_look_values ["values"] []
  m_code : mg "code" = some (.ref A.a_code)
  k_code : PySem.W.keepIn K (.ref A.a_code) = true
  f_code : Fun K "code" "code" s_code A.a_code A.d_code
  b_code : Binds K A.d_code ["value"] []
  m_value_of : mg "value_of" = some (.ref A.a_value_of)
  k_value_of : PySem.W.keepIn K (.ref A.a_value_of) = true
  f_value_of : Fun K "value_of" "value_of" s_value_of A.a_value_of A.d_value_of
  b_value_of : Binds K A.d_value_of ["number"] []
  m_runs_of : mg "runs_of" = some (.ref A.a_runs_of)
  k_runs_of : PySem.W.keepIn K (.ref A.a_runs_of) = true
  f_runs_of : Fun K "runs_of" "runs_of" s_runs_of A.a_runs_of A.d_runs_of
  b_runs_of : Binds K A.d_runs_of ["values"] []
  m_book_of : mg "book_of" = some (.ref A.a_book_of)
  k_book_of : PySem.W.keepIn K (.ref A.a_book_of) = true
  f_book_of : Fun K "book_of" "book_of" s_book_of A.a_book_of A.d_book_of
  b_book_of : Binds K A.d_book_of ["values"] []
  m_base_of : mg "base_of" = some (.ref A.a_base_of)
  k_base_of : PySem.W.keepIn K (.ref A.a_base_of) = true
  f_base_of : Fun K "base_of" "base_of" s_base_of A.a_base_of A.d_base_of
  b_base_of : Binds K A.d_base_of ["values"] []
  m_base_codes : mg "base_codes" = some (.ref A.a_base_codes)
  k_base_codes : PySem.W.keepIn K (.ref A.a_base_codes) = true
  f_base_codes : Fun K "base_codes" "base_codes" s_base_codes A.a_base_codes A.d_base_codes
  b_base_codes : Binds K A.d_base_codes ["values"] []
  m_step_codes : mg "step_codes" = some (.ref A.a_step_codes)
  k_step_codes : PySem.W.keepIn K (.ref A.a_step_codes) = true
  f_step_codes : Fun K "step_codes" "step_codes" s_step_codes A.a_step_codes A.d_step_codes
  b_step_codes : Binds K A.d_step_codes ["values"] []
  m_widest : mg "widest" = some (.ref A.a_widest)
  k_widest : PySem.W.keepIn K (.ref A.a_widest) = true
  f_widest : Fun K "widest" "widest" s_widest A.a_widest A.d_widest
  b_widest : Binds K A.d_widest ["codes"] []
  m_room : mg "room" = some (.ref A.a_room)
  k_room : PySem.W.keepIn K (.ref A.a_room) = true
  f_room : Fun K "room" "room" s_room A.a_room A.d_room
  b_room : Binds K A.d_room ["kind", "values"] []
  m_packed : mg "packed" = some (.ref A.a_packed)
  k_packed : PySem.W.keepIn K (.ref A.a_packed) = true
  f_packed : Fun K "packed" "packed" s_packed A.a_packed A.d_packed
  b_packed : Binds K A.d_packed ["kind", "values"] []
  m_need_value : mg "need_value" = some (.ref A.a_need_value)
  k_need_value : PySem.W.keepIn K (.ref A.a_need_value) = true
  f_need_value : Fun K "need_value" "need_value" s_need_value A.a_need_value A.d_need_value
  b_need_value : Binds K A.d_need_value ["tape"] []
  m_read_runs : mg "read_runs" = some (.ref A.a_read_runs)
  k_read_runs : PySem.W.keepIn K (.ref A.a_read_runs) = true
  f_read_runs : Fun K "read_runs" "read_runs" s_read_runs A.a_read_runs A.d_read_runs
  b_read_runs : Binds K A.d_read_runs ["tape", "many"] []
  m_read_book : mg "read_book" = some (.ref A.a_read_book)
  k_read_book : PySem.W.keepIn K (.ref A.a_read_book) = true
  f_read_book : Fun K "read_book" "read_book" s_read_book A.a_read_book A.d_read_book
  b_read_book : Binds K A.d_read_book ["tape", "many"] []
  m_read_base : mg "read_base" = some (.ref A.a_read_base)
  k_read_base : PySem.W.keepIn K (.ref A.a_read_base) = true
  f_read_base : Fun K "read_base" "read_base" s_read_base A.a_read_base A.d_read_base
  b_read_base : Binds K A.d_read_base ["tape", "many"] []
  m_read_steps : mg "read_steps" = some (.ref A.a_read_steps)
  k_read_steps : PySem.W.keepIn K (.ref A.a_read_steps) = true
  f_read_steps : Fun K "read_steps" "read_steps" s_read_steps A.a_read_steps A.d_read_steps
  b_read_steps : Binds K A.d_read_steps ["tape", "many"] []
  m_read_values : mg "read_values" = some (.ref A.a_read_values)
  k_read_values : PySem.W.keepIn K (.ref A.a_read_values) = true
  f_read_values : Fun K "read_values" "read_values" s_read_values A.a_read_values A.d_read_values
  b_read_values : Binds K A.d_read_values ["tape", "kind", "many"] []
  m_read_block : mg "read_block" = some (.ref A.a_read_block)
  k_read_block : PySem.W.keepIn K (.ref A.a_read_block) = true
  f_read_block : Fun K "read_block" "read_block" s_read_block A.a_read_block A.d_read_block
  b_read_block : Binds K A.d_read_block ["tape"] []
  m_unpacked : mg "unpacked" = some (.ref A.a_unpacked)
  k_unpacked : PySem.W.keepIn K (.ref A.a_unpacked) = true
  f_unpacked : Fun K "unpacked" "unpacked" s_unpacked A.a_unpacked A.d_unpacked
  b_unpacked : Binds K A.d_unpacked ["bits"] []
  m_law_cell : mg "_law_cell" = some (.ref A.a_law_cell)
  k_law_cell : PySem.W.keepIn K (.ref A.a_law_cell) = true
  f_law_cell : Fun K "_law_cell" "_law_cell" s_law_cell A.a_law_cell A.d_law_cell
  b_law_cell : Binds K A.d_law_cell ["_law_script", "_law_k"] []
  m_law_mix : mg "_law_mix" = some (.ref A.a_law_mix)
  k_law_mix : PySem.W.keepIn K (.ref A.a_law_mix) = true
  f_law_mix : Fun K "_law_mix" "_law_mix" s_law_mix A.a_law_mix A.d_law_mix
  b_law_mix : Binds K A.d_law_mix ["_law_script", "_law_k"] []
  m_law_value : mg "_law_value" = some (.ref A.a_law_value)
  k_law_value : PySem.W.keepIn K (.ref A.a_law_value) = true
  f_law_value : Fun K "_law_value" "_law_value" s_law_value A.a_law_value A.d_law_value
  b_law_value : Binds K A.d_law_value ["_law_script", "_law_k"] []
  m_law_values : mg "_law_values" = some (.ref A.a_law_values)
  k_law_values : PySem.W.keepIn K (.ref A.a_law_values) = true
  f_law_values : Fun K "_law_values" "_law_values" s_law_values A.a_law_values A.d_law_values
  b_law_values : Binds K A.d_law_values ["_law_script", "_law_k", "_law_most"] []
  m_law_need : mg "_law_need" = some (.ref A.a_law_need)
  k_law_need : PySem.W.keepIn K (.ref A.a_law_need) = true
  f_law_need : Fun K "_law_need" "_law_need" s_law_need A.a_law_need A.d_law_need
  b_law_need : Binds K A.d_law_need ["_law_number"] []
  m_law_runs : mg "_law_runs" = some (.ref A.a_law_runs)
  k_law_runs : PySem.W.keepIn K (.ref A.a_law_runs) = true
  f_law_runs : Fun K "_law_runs" "_law_runs" s_law_runs A.a_law_runs A.d_law_runs
  b_law_runs : Binds K A.d_law_runs ["_law_values_here"] []
  m_law_book : mg "_law_book" = some (.ref A.a_law_book)
  k_law_book : PySem.W.keepIn K (.ref A.a_law_book) = true
  f_law_book : Fun K "_law_book" "_law_book" s_law_book A.a_law_book A.d_law_book
  b_law_book : Binds K A.d_law_book ["_law_values_here"] []
  m_law_above : mg "_law_above" = some (.ref A.a_law_above)
  k_law_above : PySem.W.keepIn K (.ref A.a_law_above) = true
  f_law_above : Fun K "_law_above" "_law_above" s_law_above A.a_law_above A.d_law_above
  b_law_above : Binds K A.d_law_above ["_law_values_here"] []
  m_law_steps : mg "_law_steps" = some (.ref A.a_law_steps)
  k_law_steps : PySem.W.keepIn K (.ref A.a_law_steps) = true
  f_law_steps : Fun K "_law_steps" "_law_steps" s_law_steps A.a_law_steps A.d_law_steps
  b_law_steps : Binds K A.d_law_steps ["_law_values_here"] []
  m_law_room : mg "_law_room" = some (.ref A.a_law_room)
  k_law_room : PySem.W.keepIn K (.ref A.a_law_room) = true
  f_law_room : Fun K "_law_room" "_law_room" s_law_room A.a_law_room A.d_law_room
  b_law_room : Binds K A.d_law_room ["_law_kind", "_law_values_here"] []
  m_law_bits : mg "_law_bits" = some (.ref A.a_law_bits)
  k_law_bits : PySem.W.keepIn K (.ref A.a_law_bits) = true
  f_law_bits : Fun K "_law_bits" "_law_bits" s_law_bits A.a_law_bits A.d_law_bits
  b_law_bits : Binds K A.d_law_bits ["_law_number", "_law_many"] []
  m_law_plain : mg "_law_plain" = some (.ref A.a_law_plain)
  k_law_plain : PySem.W.keepIn K (.ref A.a_law_plain) = true
  f_law_plain : Fun K "_law_plain" "_law_plain" s_law_plain A.a_law_plain A.d_law_plain
  b_law_plain : Binds K A.d_law_plain ["_law_value_here"] []
  m_law_packed : mg "_law_packed" = some (.ref A.a_law_packed)
  k_law_packed : PySem.W.keepIn K (.ref A.a_law_packed) = true
  f_law_packed : Fun K "_law_packed" "_law_packed" s_law_packed A.a_law_packed A.d_law_packed
  b_law_packed : Binds K A.d_law_packed ["_law_kind", "_law_values_here"] []
  m_law : mg "law" = some (.ref A.a_law)
  k_law : PySem.W.keepIn K (.ref A.a_law) = true
  f_law : Fun K "law" "law" s_law A.a_law A.d_law
  b_law : Binds K A.d_law ["_law_script"] []
  C_Tape : ClsF K (cfg A) 4
  n_Tape : mg "Tape" = some (.ref ((cfg A).oC 4))
  z_all : mg "all" = none
  z_any : mg "any" = none
  z_int : mg "int" = none
  z_isinstance : mg "isinstance" = none
  z_len : mg "len" = none
  z_list : mg "list" = none
  z_max : mg "max" = none
  z_min : mg "min" = none
  z_range : mg "range" = none
  z_str : mg "str" = none
  z_tuple : mg "tuple" = none
  c_HEAD : ∃ t, mg "HEAD" = some (.int 11 t)
  c_KINDS : ConstT K mg "KINDS" ["plain", "runs", "book", "base", "steps"]
  c_MOST : ∃ t, mg "MOST" = some (.int 4000000 t)
  c_MOST_VALUES : ∃ t, mg "MOST_VALUES" = some (.int 100 t)
  c_MOST_WORDS : ∃ t, mg "MOST_WORDS" = some (.int 64 t)
  c_VALUE : ∃ t, mg "VALUE" = some (.int 24 t)
  e_BadBits : ExcF K mg "BadBits" A.x_BadBits
  e_BadValue : ExcF K mg "BadValue" A.x_BadValue
  e_NoPacking : ExcF K mg "NoPacking" A.x_NoPacking
section
variable {P : Program} {w : World} {K : PySem.W.Frag} {mg : Str → Option Value} {base : Heap} {A : Ad}
theorem ok_width (T : Txt K w mg A) : FnOk P w K mg base (L2.CX P w) 1 A.a_width A.d_width ["number"] (spV K (cfg A) 1 .flat den_width) :=
  fn_val (O1 := []) (N := N_width) (n := 1) (m := 1) T.f_width sc_width rfl rfl (fun cdv A' outer s H F E hr tk => (vss_cons (vs_set 1 sc_width.nd v_int) (vss_cons (vs_while 100 (passes_of rfl) (vt_cmp c_gt (v_ct (v_var 0)) (v_ct v_int)) (vss_cons (vs_set 0 sc_width.nd (v_bin o_fdiv (v_ct (v_var 0)) (v_ct v_int))) (vss_one (vs_set 1 sc_width.nd (v_bin o_add (v_ct (v_var 1)) (v_ct v_int)))))) (vss_one (vs_ret (v_var 1))))))
theorem ok_bits_of (T : Txt K w mg A) : FnOk P w K mg base (L2.CX P w) 1 A.a_bits_of A.d_bits_of ["number", "many"] (spV K (cfg A) 2 .flat den_bits_of) :=
  fn_val (O1 := []) (N := N_bits_of) (n := 2) (m := 2) T.f_bits_of sc_bits_of rfl rfl (fun cdv A' outer s H F E hr tk => (vss_cons (vs_set 2 sc_bits_of.nd v_str) (vss_cons (vs_for (passes_of rfl) rfl (vi_range1 T.z_range (va_cons (v_ct (v_var 1)) va_nil)) (vg_name 3 sc_bits_of.nd) (vss_w (O2 := [.fz, .fz, .fz, .un]) (vss_cons (vs_set 2 sc_bits_of.nd (v_bin o_add (v_ct (v_strc T.z_str (va_cons (v_ct (v_bin o_mod (v_ct (v_var 0)) (v_ct v_int))) va_nil))) (v_ct (v_var 2)))) (vss_one (vs_set 0 sc_bits_of.nd (v_bin o_fdiv (v_ct (v_var 0)) (v_ct v_int))))))) (vss_one (vs_ret (v_var 2))))))
theorem ok_Tape_init (T : Txt K w mg A) : FnOk P w K mg base (L2.CX P w) 1 A.a_Tape_init A.d_Tape_init ["self", "bits"] (spM K (cfg A) 1 den_Tape_init) :=
  fn_valM (O1 := [.me, .fz]) (N := N_Tape_init) (n := 1) (m := 0) T.f_Tape_init sc_Tape_init rfl rfl (fun cdv A' outer s H F p E hr tk => (vss_cons (vs_attr 0 4 0 T.C_Tape (v_var 1) (fun p h => by cases h; exact er_at)) (vss_one (vs_attr 0 4 1 T.C_Tape v_int (fun p h => by cases h; exact er_at))))) (by first | exact .inl rfl | exact .inr rfl)
theorem ok_Tape_take (T : Txt K w mg A) : FnOk P w K mg base (L2.CX P w) 1 A.a_Tape_take A.d_Tape_take ["self", "many"] (spM K (cfg A) 1 den_Tape_take) :=
  fn_valM (O1 := []) (N := N_Tape_take) (n := 1) (m := 2) T.f_Tape_take sc_Tape_take rfl rfl (fun cdv A' outer s H F p E hr tk => (vss_cons (vs_if (O1 := [.me, .fz, .un, .un]) (vt_cmp c_gt (v_ct (v_bin o_add (v_ct (v_attrM 4 1 0 T.C_Tape)) (v_ct (v_var 1)))) (v_ct (v_len T.z_len (va_cons (v_ct (v_attrM 4 0 0 T.C_Tape)) va_nil)))) (vss_one (vs_raiseF 3 tk T.e_BadBits)) vss_nil) (vss_cons (vs_set 2 sc_Tape_take.nd v_int) (vss_cons (vs_for (passes_of rfl) rfl (vi_str (v_ct (v_slF (v_ct (v_attrM 4 0 0 T.C_Tape)) (vo_some (v_ct (v_attrM 4 1 0 T.C_Tape))) (vo_some (v_ct (v_bin o_add (v_ct (v_attrM 4 1 0 T.C_Tape)) (v_ct (v_var 1)))))))) (vg_name 3 sc_Tape_take.nd) (vss_w (O2 := [.me, .fz, .fz, .un]) (vss_one (vs_set 2 sc_Tape_take.nd (v_bin o_add (v_ct (v_bin o_mul (v_ct v_int) (v_ct (v_var 2)))) (v_ct (v_intc T.z_int (va_cons (v_ct (v_cmp (c_eq hr) (v_ct (v_var 3)) (v_ct v_str))) va_nil)))))))) (vss_cons (vs_attr 0 4 1 T.C_Tape (v_bin o_add (v_ct (v_attrM 4 1 0 T.C_Tape)) (v_ct (v_var 1))) (fun p h => by cases h; exact er_at)) (vss_one (vs_retM (v_var 2)))))))) (by first | exact .inl rfl | exact .inr rfl)
theorem ok_look_values (T : Txt K w mg A) : FnOk P w K mg base (L2.CX P w) 1 A.a_look_values A.d_look_values ["values"] (spV K (cfg A) 1 .flat den_look_values) :=
  fn_val (O1 := [.fz, .un]) (N := N_look_values) (n := 1) (m := 1) T.f_look_values sc_look_values rfl rfl (fun cdv A' outer s H F E hr tk => (vss_cons (vs_if (O1 := [.fz, .un]) (vt_not (vt_chain c_le c_le (v_ct v_int) (v_ct (v_len T.z_len (va_cons (v_ct (v_var 0)) va_nil))) (v_ct (v_globI T.c_MOST_VALUES)))) (vss_one (vs_raiseF 1 tk T.e_BadValue)) vss_nil) (vss_one (vs_for (passes_of rfl) rfl (vi_list (v_var 0)) (vg_name 1 sc_look_values.nd) (vss_w (O2 := [.fz, .un]) (vss_one (vs_if (O1 := [.fz, .fz]) (vt_w (vw_and (vt_cmp c_isnot (v_ct (v_var 1)) (v_ct v_non)) (vw_and1 (vt_not (vt_chain c_le c_le (v_ct (v_neg (v_ct (v_globI T.c_MOST)))) (v_ct (v_var 1)) (v_ct (v_globI T.c_MOST))))))) (vss_one (vs_raiseF 1 tk T.e_BadValue)) vss_nil)))))))
theorem ok_code (T : Txt K w mg A) : FnOk P w K mg base (L2.CX P w) 1 A.a_code A.d_code ["value"] (spV K (cfg A) 1 .flat den_code) :=
  fn_val (O1 := []) (N := N_code) (n := 1) (m := 0) T.f_code sc_code rfl rfl (fun cdv A' outer s H F E hr tk => (vss_one (vs_ret (v_ife (vt_cmp c_is (v_ct (v_var 0)) (v_ct v_non)) v_int (v_bin o_add (v_ct (v_bin o_add (v_ct (v_var 0)) (v_ct (v_globI T.c_MOST)))) (v_ct v_int))))))
theorem ok_value_of (T : Txt K w mg A) : FnOk P w K mg base (L2.CX P w) 1 A.a_value_of A.d_value_of ["number"] (spV K (cfg A) 1 .flat den_value_of) :=
  fn_val (O1 := []) (N := N_value_of) (n := 1) (m := 0) T.f_value_of sc_value_of rfl rfl (fun cdv A' outer s H F E hr tk => (vss_cons (vs_if (O1 := [.fz]) (vt_cmp c_gt (v_ct (v_var 0)) (v_ct (v_bin o_add (v_ct (v_bin o_mul (v_ct v_int) (v_ct (v_globI T.c_MOST)))) (v_ct v_int)))) (vss_one (vs_raiseF 3 tk T.e_BadBits)) vss_nil) (vss_one (vs_ret (v_ife (vt_cmp (c_eq hr) (v_ct (v_var 0)) (v_ct v_int)) v_non (v_bin o_sub (v_ct (v_bin o_sub (v_ct (v_var 0)) (v_ct (v_globI T.c_MOST)))) (v_ct v_int)))))))
theorem ok_runs_of (T : Txt K w mg A) : FnOk P w K mg base (L2.CX P w) 1 A.a_runs_of A.d_runs_of ["values"] (spV K (cfg A) 1 .own den_runs_of) :=
  fn_val (O1 := []) (N := N_runs_of) (n := 1) (m := 2) T.f_runs_of sc_runs_of rfl rfl (fun cdv A' outer s H F E hr tk => (vss_cons (vs_setO 1 sc_runs_of.nd (v_lst va_nil)) (vss_cons (vs_for (passes_of rfl) rfl (vi_list (v_var 0)) (vg_name 2 sc_runs_of.nd) (vss_w (O2 := [.fz, .own, .un]) (vss_one (vs_if (O1 := [.fz, .own, .fz]) (vt_w (vw_and (vt_truth (v_varO 1)) (vw_and1 (vt_cmp (c_eq hr) (v_ct (v_ix (v_ct (v_ix (v_varO 1) (v_ct (v_neg (v_ct v_int))))) (v_ct v_int))) (v_ct (v_var 2)))))) (vss_one (vs_put 1 (v_tup (va_consF (v_var 2) (va_consF (v_bin o_add (v_ct (v_ix (v_ct (v_ix (v_varO 1) (v_ct (v_neg (v_ct v_int))))) (v_ct v_int))) (v_ct v_int)) va_nil))) (v_ct (v_neg (v_ct v_int))))) (vss_one (vs_append 1 (v_tup (va_consF (v_var 2) (va_consF v_int va_nil))))))))) (vss_one (vs_retO 1)))))
theorem ok_book_of (T : Txt K w mg A) : FnOk P w K mg base (L2.CX P w) 1 A.a_book_of A.d_book_of ["values"] (spV K (cfg A) 1 .ownf den_book_of) :=
  fn_val (O1 := []) (N := N_book_of) (n := 1) (m := 2) T.f_book_of sc_book_of rfl rfl (fun cdv A' outer s H F E hr tk => (vss_cons (vs_setO 1 sc_book_of.nd (v_lst va_nil)) (vss_cons (vs_for (passes_of rfl) rfl (vi_list (v_var 0)) (vg_name 2 sc_book_of.nd) (vss_w (O2 := [.fz, .own, .un]) (vss_one (vs_if (O1 := [.fz, .own, .fz]) (vt_cmp (c_notin1 hr) (v_ct (v_var 2)) (v_varO 1)) (vss_one (vs_append 1 (v_var 2))) vss_nil)))) (vss_one (vs_retO 1)))))
theorem ok_base_of (T : Txt K w mg A) : FnOk P w K mg base (L2.CX P w) 1 A.a_base_of A.d_base_of ["values"] (spV K (cfg A) 1 .flat den_base_of) :=
  fn_val (O1 := []) (N := N_base_of) (n := 1) (m := 1) T.f_base_of sc_base_of rfl rfl (fun cdv A' outer s H F E hr tk => (vss_one (vs_ret (v_minD hr rfl T.z_min (v_ct (v_fz (v_lc (own := [("value", 1)]) rfl sc_base_of.nd (vi_list (v_var 0)) (blkOk_by (N := N_base_of) (sc := defScope s_base_of) (by decide +kernel)) (fun _ _ _ _ _ => (vg_name 1 sc_base_of.nd)) (fun _ _ _ _ _ => (vts_one (vt_cmp c_isnot (v_ct (v_var 1)) (v_ct v_non)))) (fun _ _ _ _ _ => (v_var 1))))) v_int))))
theorem ok_base_codes (T : Txt K w mg A) (G_base_of : FnOk P w K mg base (L2.CX P w) 1 A.a_base_of A.d_base_of ["values"] (spV K (cfg A) 1 .flat den_base_of)) : FnOk P w K mg base (L2.CX P w) 2 A.a_base_codes A.d_base_codes ["values"] (spV K (cfg A) 1 .ownf den_base_codes) :=
  fn_val (O1 := []) (N := N_base_codes) (n := 1) (m := 2) T.f_base_codes sc_base_codes rfl rfl (fun cdv A' outer s H F E hr tk => (vss_cons (vs_set 1 sc_base_codes.nd (v_callC (rk := .flat) tk G_base_of (hr.mono (by decide)) T.m_base_of T.k_base_of T.b_base_of (va_cons (v_ct (v_var 0)) va_nil) rfl (aCons_len aNil_len'))) (vss_one (vs_ret (v_lc (own := [("value", 2)]) rfl sc_base_codes.nd (vi_list (v_var 0)) (blkOk_by (N := N_base_codes) (sc := defScope s_base_codes) (by decide +kernel)) (fun _ _ _ _ _ => (vg_name 2 sc_base_codes.nd)) (fun _ _ _ _ _ => vts_nil) (fun _ _ _ _ _ => (v_ife (vt_cmp c_is (v_ct (v_var 2)) (v_ct v_non)) v_int (v_bin o_add (v_ct (v_bin o_sub (v_ct (v_var 2)) (v_ct (v_var 1)))) (v_ct v_int)))))))))
theorem ok_step_codes (T : Txt K w mg A) : FnOk P w K mg base (L2.CX P w) 1 A.a_step_codes A.d_step_codes ["values"] (spV K (cfg A) 1 .fz den_step_codes) :=
  fn_val (O1 := []) (N := N_step_codes) (n := 1) (m := 3) T.f_step_codes sc_step_codes rfl rfl (fun cdv A' outer s H F E hr tk => (vss_cons (vs_if (O1 := [.fz, .un, .un, .un]) (vt_cmp (c_in1 hr) (v_ct v_non) (v_ct (v_var 0))) (vss_one (vs_ret v_non)) vss_nil) (vss_cons (vs_setO 1 sc_step_codes.nd (v_lst va_nil)) (vss_cons (vs_for (passes_of rfl) rfl (vi_range2 T.z_range (va_cons (v_ct v_int) (va_cons (v_ct (v_len T.z_len (va_cons (v_ct (v_var 0)) va_nil))) va_nil))) (vg_name 2 sc_step_codes.nd) (vss_w (O2 := [.fz, .own, .un, .un]) (vss_cons (vs_set 3 sc_step_codes.nd (v_bin o_sub (v_ct (v_ix (v_ct (v_var 0)) (v_ct (v_var 2)))) (v_ct (v_ix (v_ct (v_var 0)) (v_ct (v_bin o_sub (v_ct (v_var 2)) (v_ct v_int))))))) (vss_one (vs_append 1 (v_ife (vt_cmp c_ge (v_ct (v_var 3)) (v_ct v_int)) (v_bin o_mul (v_ct v_int) (v_ct (v_var 3))) (v_bin o_sub (v_ct (v_bin o_mul (v_ct (v_neg (v_ct v_int))) (v_ct (v_var 3)))) (v_ct v_int)))))))) (vss_one (vs_p (O1 := [.fz, .fz, .un, .un]) (vs_ret (v_var 1))))))))
theorem ok_widest (T : Txt K w mg A) (G_width : FnOk P w K mg base (L2.CX P w) 1 A.a_width A.d_width ["number"] (spV K (cfg A) 1 .flat den_width)) : FnOk P w K mg base (L2.CX P w) 2 A.a_widest A.d_widest ["codes"] (spV K (cfg A) 1 .flat den_widest) :=
  fn_val (O1 := []) (N := N_widest) (n := 1) (m := 0) T.f_widest sc_widest rfl rfl (fun cdv A' outer s H F E hr tk => (vss_one (vs_ret (v_callC (rk := .flat) tk G_width (hr.mono (by decide)) T.m_width T.k_width T.b_width (va_cons (v_ct (v_maxD hr rfl T.z_max (v_ct (v_var 0)) v_int)) va_nil) rfl (aCons_len aNil_len')))))
theorem ok_room (T : Txt K w mg A) (G_look_values : FnOk P w K mg base (L2.CX P w) 1 A.a_look_values A.d_look_values ["values"] (spV K (cfg A) 1 .flat den_look_values)) (G_runs_of : FnOk P w K mg base (L2.CX P w) 1 A.a_runs_of A.d_runs_of ["values"] (spV K (cfg A) 1 .own den_runs_of)) (G_book_of : FnOk P w K mg base (L2.CX P w) 1 A.a_book_of A.d_book_of ["values"] (spV K (cfg A) 1 .ownf den_book_of)) (G_width : FnOk P w K mg base (L2.CX P w) 1 A.a_width A.d_width ["number"] (spV K (cfg A) 1 .flat den_width)) (G_widest : FnOk P w K mg base (L2.CX P w) 2 A.a_widest A.d_widest ["codes"] (spV K (cfg A) 1 .flat den_widest)) (G_base_codes : FnOk P w K mg base (L2.CX P w) 2 A.a_base_codes A.d_base_codes ["values"] (spV K (cfg A) 1 .ownf den_base_codes)) (G_step_codes : FnOk P w K mg base (L2.CX P w) 1 A.a_step_codes A.d_step_codes ["values"] (spV K (cfg A) 1 .fz den_step_codes)) : FnOk P w K mg base (L2.CX P w) 3 A.a_room A.d_room ["kind", "values"] (spV K (cfg A) 2 .flat den_room) :=
  fn_val (O1 := []) (N := N_room) (n := 2) (m := 3) T.f_room sc_room rfl rfl (fun cdv A' outer s H F E hr tk => (vss_cons (vs_expr (v_callC (rk := .flat) tk G_look_values (hr.mono (by decide)) T.m_look_values T.k_look_values T.b_look_values (va_cons (v_ct (v_var 1)) va_nil) rfl (aCons_len aNil_len'))) (vss_cons (vs_set 2 sc_room.nd (v_len T.z_len (va_cons (v_ct (v_var 1)) va_nil))) (vss_cons (vs_if (O1 := [.fz, .fz, .fz, .un, .un]) (vt_cmp (c_eq hr) (v_ct (v_var 0)) (v_ct v_str)) (vss_one (vs_ret (v_bin o_add (v_ct (v_globI T.c_HEAD)) (v_ct (v_bin o_mul (v_ct (v_globI T.c_VALUE)) (v_ct (v_var 2))))))) vss_nil) (vss_cons (vs_if (O1 := [.fz, .fz, .fz, .un, .un]) (vt_cmp (c_eq hr) (v_ct (v_var 0)) (v_ct v_str)) (vss_one (vs_ret (v_bin o_add (v_ct (v_bin o_add (v_ct (v_globI T.c_HEAD)) (v_ct v_int))) (v_ct (v_bin o_mul (v_ct (v_bin o_add (v_ct (v_globI T.c_VALUE)) (v_ct v_int))) (v_ct (v_len T.z_len (va_cons (v_ct (v_fz (v_call (rk := .own) tk G_runs_of (hr.mono (by decide)) T.m_runs_of T.k_runs_of T.b_runs_of (va_consF (v_var 1) va_nil) (aCons_len aNil_len')))) va_nil)))))))) vss_nil) (vss_cons (vs_if (O1 := [.fz, .fz, .fz, .un, .un]) (vt_cmp (c_eq hr) (v_ct (v_var 0)) (v_ct v_str)) (vss_cons (vs_set 3 sc_room.nd (v_len T.z_len (va_cons (v_ct (v_fz (v_callC (rk := .ownf) tk G_book_of (hr.mono (by decide)) T.m_book_of T.k_book_of T.b_book_of (va_cons (v_ct (v_var 1)) va_nil) rfl (aCons_len aNil_len')))) va_nil))) (vss_one (vs_ret (v_ife (vt_cmp c_le (v_ct (v_var 3)) (v_ct (v_globI T.c_MOST_WORDS))) (v_bin o_add (v_ct (v_bin o_add (v_ct (v_bin o_add (v_ct (v_globI T.c_HEAD)) (v_ct v_int))) (v_ct (v_bin o_mul (v_ct (v_globI T.c_VALUE)) (v_ct (v_var 3)))))) (v_ct (v_bin o_mul (v_ct (v_callC (rk := .flat) tk G_width (hr.mono (by decide)) T.m_width T.k_width T.b_width (va_cons (v_ct (v_bin o_sub (v_ct (v_var 3)) (v_ct v_int))) va_nil) rfl (aCons_len aNil_len'))) (v_ct (v_var 2))))) v_non)))) vss_nil) (vss_cons (vs_if (O1 := [.fz, .fz, .fz, .un, .un]) (vt_cmp (c_eq hr) (v_ct (v_var 0)) (v_ct v_str)) (vss_one (vs_ret (v_bin o_add (v_ct (v_bin o_add (v_ct (v_bin o_add (v_ct (v_globI T.c_HEAD)) (v_ct (v_globI T.c_VALUE)))) (v_ct v_int))) (v_ct (v_bin o_mul (v_ct (v_callC (rk := .flat) tk G_widest (hr.mono (by decide)) T.m_widest T.k_widest T.b_widest (va_cons (v_ct (v_fz (v_callC (rk := .ownf) tk G_base_codes (hr.mono (by decide)) T.m_base_codes T.k_base_codes T.b_base_codes (va_cons (v_ct (v_var 1)) va_nil) rfl (aCons_len aNil_len')))) va_nil) rfl (aCons_len aNil_len'))) (v_ct (v_var 2))))))) vss_nil) (vss_cons (vs_if (O1 := [.fz, .fz, .fz, .un, .un]) (vt_cmp (c_ne hr) (v_ct (v_var 0)) (v_ct v_str)) (vss_one (vs_raiseF 2 tk T.e_NoPacking)) vss_nil) (vss_cons (vs_set 4 sc_room.nd (v_call (rk := .fz) tk G_step_codes (hr.mono (by decide)) T.m_step_codes T.k_step_codes T.b_step_codes (va_consF (v_var 1) va_nil) (aCons_len aNil_len'))) (vss_one (vs_ret (v_ife (vt_cmp c_isnot (v_ct (v_var 4)) (v_ct v_non)) (v_bin o_add (v_ct (v_bin o_add (v_ct (v_bin o_add (v_ct (v_globI T.c_HEAD)) (v_ct (v_globI T.c_VALUE)))) (v_ct v_int))) (v_ct (v_bin o_mul (v_ct (v_callC (rk := .flat) tk G_widest (hr.mono (by decide)) T.m_widest T.k_widest T.b_widest (va_cons (v_ct (v_var 4)) va_nil) rfl (aCons_len aNil_len'))) (v_ct (v_bin o_sub (v_ct (v_var 2)) (v_ct v_int)))))) v_non))))))))))))
theorem ok_packed (T : Txt K w mg A) (G_room : FnOk P w K mg base (L2.CX P w) 3 A.a_room A.d_room ["kind", "values"] (spV K (cfg A) 2 .flat den_room)) (G_bits_of : FnOk P w K mg base (L2.CX P w) 1 A.a_bits_of A.d_bits_of ["number", "many"] (spV K (cfg A) 2 .flat den_bits_of)) (G_code : FnOk P w K mg base (L2.CX P w) 1 A.a_code A.d_code ["value"] (spV K (cfg A) 1 .flat den_code)) (G_runs_of : FnOk P w K mg base (L2.CX P w) 1 A.a_runs_of A.d_runs_of ["values"] (spV K (cfg A) 1 .own den_runs_of)) (G_book_of : FnOk P w K mg base (L2.CX P w) 1 A.a_book_of A.d_book_of ["values"] (spV K (cfg A) 1 .ownf den_book_of)) (G_width : FnOk P w K mg base (L2.CX P w) 1 A.a_width A.d_width ["number"] (spV K (cfg A) 1 .flat den_width)) (G_base_codes : FnOk P w K mg base (L2.CX P w) 2 A.a_base_codes A.d_base_codes ["values"] (spV K (cfg A) 1 .ownf den_base_codes)) (G_step_codes : FnOk P w K mg base (L2.CX P w) 1 A.a_step_codes A.d_step_codes ["values"] (spV K (cfg A) 1 .fz den_step_codes)) (G_base_of : FnOk P w K mg base (L2.CX P w) 1 A.a_base_of A.d_base_of ["values"] (spV K (cfg A) 1 .flat den_base_of)) (G_widest : FnOk P w K mg base (L2.CX P w) 2 A.a_widest A.d_widest ["codes"] (spV K (cfg A) 1 .flat den_widest)) : FnOk P w K mg base (L2.CX P w) 4 A.a_packed A.d_packed ["kind", "values"] (spV K (cfg A) 2 .flat den_packed) :=
  fn_val (O1 := []) (N := N_packed) (n := 2) (m := 9) T.f_packed sc_packed rfl rfl (fun cdv A' outer s H F E hr tk => (vss_cons (vs_if (O1 := [.fz, .fz, .un, .un, .un, .un, .un, .un, .un, .un, .un]) (vt_cmp c_is (v_ct (v_callC (rk := .flat) tk G_room (hr.mono (by decide)) T.m_room T.k_room T.b_room (va_cons (v_ct (v_var 0)) (va_cons (v_ct (v_var 1)) va_nil)) rfl (aCons_len (aCons_len aNil_len')))) (v_ct v_non)) (vss_one (vs_raiseF 2 tk T.e_NoPacking)) vss_nil) (vss_cons (vs_set 2 sc_packed.nd (v_bin o_add (v_ct (v_callC (rk := .flat) tk G_bits_of (hr.mono (by decide)) T.m_bits_of T.k_bits_of T.b_bits_of (va_cons (v_ct (v_indexT T.c_KINDS (v_ct (v_var 0)))) (va_cons (v_ct v_int) va_nil)) rfl (aCons_len (aCons_len aNil_len')))) (v_ct (v_callC (rk := .flat) tk G_bits_of (hr.mono (by decide)) T.m_bits_of T.k_bits_of T.b_bits_of (va_cons (v_ct (v_bin o_sub (v_ct (v_len T.z_len (va_cons (v_ct (v_var 1)) va_nil))) (v_ct v_int))) (va_cons (v_ct v_int) va_nil)) rfl (aCons_len (aCons_len aNil_len')))))) (vss_cons (vs_if (O1 := [.fz, .fz, .fz, .un, .un, .un, .un, .un, .un, .un, .un]) (vt_cmp (c_eq hr) (v_ct (v_var 0)) (v_ct v_str)) (vss_one (vs_ret (v_bin o_add (v_ct (v_var 2)) (v_ct (v_join (v_ct v_str) (v_ct (v_fz (v_lc (own := [("value", 9)]) rfl sc_packed.nd (vi_list (v_var 1)) (blkOk_by (N := N_packed) (sc := defScope s_packed) (by decide +kernel)) (fun _ _ _ _ _ => (vg_name 9 sc_packed.nd)) (fun _ _ _ _ _ => vts_nil) (fun _ _ _ _ _ => (v_callC (rk := .flat) takes0 G_bits_of (hr.mono (by decide)) T.m_bits_of T.k_bits_of T.b_bits_of (va_cons (v_ct (v_callC (rk := .flat) takes0 G_code (hr.mono (by decide)) T.m_code T.k_code T.b_code (va_cons (v_ct (v_var 9)) va_nil) rfl (aCons_len aNil_len'))) (va_cons (v_ct (v_globI T.c_VALUE)) va_nil)) rfl (aCons_len (aCons_len aNil_len')))))))))))) vss_nil) (vss_cons (vs_if (O1 := [.fz, .fz, .fz, .un, .un, .un, .un, .un, .un, .un, .un]) (vt_cmp (c_eq hr) (v_ct (v_var 0)) (v_ct v_str)) (vss_cons (vs_setO 3 sc_packed.nd (v_call (rk := .own) tk G_runs_of (hr.mono (by decide)) T.m_runs_of T.k_runs_of T.b_runs_of (va_consF (v_var 1) va_nil) (aCons_len aNil_len'))) (vss_cons (vs_p (O1 := [.fz, .fz, .fz, .fz, .un, .un, .un, .un, .un, .un, .un]) (vs_setLc 4 (own := [("value", 9), ("many", 6)]) rfl sc_packed.nd (vi_list (v_var 3)) (blkOk_by (N := N_packed) (sc := defScope s_packed) (by decide +kernel)) (fun _ _ _ _ _ => (vg_tup2 9 6 rfl sc_packed.nd)) (fun _ _ _ _ _ => vts_nil) (fun _ _ _ _ _ => (v_bin o_add (v_ct (v_callC (rk := .flat) takes0 G_bits_of (hr.mono (by decide)) T.m_bits_of T.k_bits_of T.b_bits_of (va_cons (v_ct (v_callC (rk := .flat) takes0 G_code (hr.mono (by decide)) T.m_code T.k_code T.b_code (va_cons (v_ct (v_var 9)) va_nil) rfl (aCons_len aNil_len'))) (va_cons (v_ct (v_globI T.c_VALUE)) va_nil)) rfl (aCons_len (aCons_len aNil_len')))) (v_ct (v_callC (rk := .flat) takes0 G_bits_of (hr.mono (by decide)) T.m_bits_of T.k_bits_of T.b_bits_of (va_cons (v_ct (v_bin o_sub (v_ct (v_var 6)) (v_ct v_int))) (va_cons (v_ct v_int) va_nil)) rfl (aCons_len (aCons_len aNil_len')))))) (sw_true rfl rfl rfl (by decide +kernel)))) (vss_one (vs_ret (v_bin o_add (v_ct (v_bin o_add (v_ct (v_var 2)) (v_ct (v_callC (rk := .flat) tk G_bits_of (hr.mono (by decide)) T.m_bits_of T.k_bits_of T.b_bits_of (va_cons (v_ct (v_bin o_sub (v_ct (v_len T.z_len (va_cons (v_ct (v_var 3)) va_nil))) (v_ct v_int))) (va_cons (v_ct v_int) va_nil)) rfl (aCons_len (aCons_len aNil_len')))))) (v_ct (v_join (v_ct v_str) (v_varO 4)))))))) vss_nil) (vss_cons (vs_if (O1 := [.fz, .fz, .fz, .un, .un, .un, .un, .un, .un, .un, .un]) (vt_cmp (c_eq hr) (v_ct (v_var 0)) (v_ct v_str)) (vss_cons (vs_setO 5 sc_packed.nd (v_callC (rk := .ownf) tk G_book_of (hr.mono (by decide)) T.m_book_of T.k_book_of T.b_book_of (va_cons (v_ct (v_var 1)) va_nil) rfl (aCons_len aNil_len'))) (vss_cons (vs_p (O1 := [.fz, .fz, .fz, .un, .un, .fz, .un, .un, .un, .un, .un]) (vs_setLc 4 (own := [("value", 9)]) rfl sc_packed.nd (vi_list (v_var 5)) (blkOk_by (N := N_packed) (sc := defScope s_packed) (by decide +kernel)) (fun _ _ _ _ _ => (vg_name 9 sc_packed.nd)) (fun _ _ _ _ _ => vts_nil) (fun _ _ _ _ _ => (v_callC (rk := .flat) takes0 G_bits_of (hr.mono (by decide)) T.m_bits_of T.k_bits_of T.b_bits_of (va_cons (v_ct (v_callC (rk := .flat) takes0 G_code (hr.mono (by decide)) T.m_code T.k_code T.b_code (va_cons (v_ct (v_var 9)) va_nil) rfl (aCons_len aNil_len'))) (va_cons (v_ct (v_globI T.c_VALUE)) va_nil)) rfl (aCons_len (aCons_len aNil_len')))) (sw_true rfl rfl rfl (by decide +kernel)))) (vss_cons (vs_set 6 sc_packed.nd (v_callC (rk := .flat) tk G_width (hr.mono (by decide)) T.m_width T.k_width T.b_width (va_cons (v_ct (v_bin o_sub (v_ct (v_len T.z_len (va_cons (v_ct (v_var 5)) va_nil))) (v_ct v_int))) va_nil) rfl (aCons_len aNil_len'))) (vss_cons (vs_extend 4 (v_fz (v_lc (own := [("value", 9)]) rfl sc_packed.nd (vi_list (v_var 1)) (blkOk_by (N := N_packed) (sc := defScope s_packed) (by decide +kernel)) (fun _ _ _ _ _ => (vg_name 9 sc_packed.nd)) (fun _ _ _ _ _ => vts_nil) (fun _ _ _ _ _ => (v_callC (rk := .flat) takes0 G_bits_of (hr.mono (by decide)) T.m_bits_of T.k_bits_of T.b_bits_of (va_cons (v_ct (v_index hr (v_ct (v_var 5)) (v_ct (v_var 9)))) (va_cons (v_ct (v_var 6)) va_nil)) rfl (aCons_len (aCons_len aNil_len'))))))) (vss_one (vs_ret (v_bin o_add (v_ct (v_bin o_add (v_ct (v_var 2)) (v_ct (v_callC (rk := .flat) tk G_bits_of (hr.mono (by decide)) T.m_bits_of T.k_bits_of T.b_bits_of (va_cons (v_ct (v_bin o_sub (v_ct (v_len T.z_len (va_cons (v_ct (v_var 5)) va_nil))) (v_ct v_int))) (va_cons (v_ct v_int) va_nil)) rfl (aCons_len (aCons_len aNil_len')))))) (v_ct (v_join (v_ct v_str) (v_varO 4)))))))))) vss_nil) (vss_cons (vs_set 7 sc_packed.nd (v_ife (vt_cmp (c_eq hr) (v_ct (v_var 0)) (v_ct v_str)) (v_fz (v_callC (rk := .ownf) tk G_base_codes (hr.mono (by decide)) T.m_base_codes T.k_base_codes T.b_base_codes (va_cons (v_ct (v_var 1)) va_nil) rfl (aCons_len aNil_len'))) (v_call (rk := .fz) tk G_step_codes (hr.mono (by decide)) T.m_step_codes T.k_step_codes T.b_step_codes (va_consF (v_var 1) va_nil) (aCons_len aNil_len')))) (vss_cons (vs_set 8 sc_packed.nd (v_ife (vt_cmp (c_eq hr) (v_ct (v_var 0)) (v_ct v_str)) (v_callC (rk := .flat) tk G_base_of (hr.mono (by decide)) T.m_base_of T.k_base_of T.b_base_of (va_cons (v_ct (v_var 1)) va_nil) rfl (aCons_len aNil_len')) (v_ix (v_ct (v_var 1)) (v_ct v_int)))) (vss_cons (vs_set 6 sc_packed.nd (v_callC (rk := .flat) tk G_widest (hr.mono (by decide)) T.m_widest T.k_widest T.b_widest (va_cons (v_ct (v_var 7)) va_nil) rfl (aCons_len aNil_len'))) (vss_one (vs_ret (v_bin o_add (v_ct (v_bin o_add (v_ct (v_bin o_add (v_ct (v_var 2)) (v_ct (v_callC (rk := .flat) tk G_bits_of (hr.mono (by decide)) T.m_bits_of T.k_bits_of T.b_bits_of (va_cons (v_ct (v_callC (rk := .flat) tk G_code (hr.mono (by decide)) T.m_code T.k_code T.b_code (va_cons (v_ct (v_var 8)) va_nil) rfl (aCons_len aNil_len'))) (va_cons (v_ct (v_globI T.c_VALUE)) va_nil)) rfl (aCons_len (aCons_len aNil_len')))))) (v_ct (v_callC (rk := .flat) tk G_bits_of (hr.mono (by decide)) T.m_bits_of T.k_bits_of T.b_bits_of (va_cons (v_ct (v_var 6)) (va_cons (v_ct v_int) va_nil)) rfl (aCons_len (aCons_len aNil_len')))))) (v_ct (v_join (v_ct v_str) (v_ct (v_fz (v_lc (own := [("one", 10)]) rfl sc_packed.nd (vi_list (v_var 7)) (blkOk_by (N := N_packed) (sc := defScope s_packed) (by decide +kernel)) (fun _ _ _ _ _ => (vg_name 10 sc_packed.nd)) (fun _ _ _ _ _ => vts_nil) (fun _ _ _ _ _ => (v_callC (rk := .flat) takes0 G_bits_of (hr.mono (by decide)) T.m_bits_of T.k_bits_of T.b_bits_of (va_cons (v_ct (v_var 10)) (va_cons (v_ct (v_var 6)) va_nil)) rfl (aCons_len (aCons_len aNil_len')))))))))))))))))))))
theorem ok_need_value (T : Txt K w mg A) (G_value_of : FnOk P w K mg base (L2.CX P w) 1 A.a_value_of A.d_value_of ["number"] (spV K (cfg A) 1 .flat den_value_of)) (G_Tape_take : FnOk P w K mg base (L2.CX P w) 1 A.a_Tape_take A.d_Tape_take ["self", "many"] (spM K (cfg A) 1 den_Tape_take)) : FnOk P w K mg base (L2.CX P w) 2 A.a_need_value A.d_need_value ["tape"] (spM K (cfg A) 0 den_need_value) :=
  fn_valM (O1 := []) (N := N_need_value) (n := 0) (m := 0) T.f_need_value sc_need_value rfl rfl (fun cdv A' outer s H F p E hr tk => (vss_one (vs_retMX (vx_call1 (rk := .flat) tk G_value_of (hr.mono (by decide)) T.m_value_of T.k_value_of T.b_value_of (vx_meth 0 4 tk T.C_Tape T.M_Tape_take G_Tape_take (hr.mono (by decide)) T.b_Tape_take (va_consF (v_globI T.c_VALUE) va_nil) (aCons_len aNil_len') (show ("take" : Str) ∉ oNs.getD 4 [] by decide +kernel) (fun p h => by cases h; exact er_at)))))) (by first | exact .inl rfl | exact .inr rfl)
theorem ok_read_runs (T : Txt K w mg A) (G_Tape_take : FnOk P w K mg base (L2.CX P w) 1 A.a_Tape_take A.d_Tape_take ["self", "many"] (spM K (cfg A) 1 den_Tape_take)) (G_need_value : FnOk P w K mg base (L2.CX P w) 2 A.a_need_value A.d_need_value ["tape"] (spM K (cfg A) 0 den_need_value)) : FnOk P w K mg base (L2.CX P w) 3 A.a_read_runs A.d_read_runs ["tape", "many"] (spM K (cfg A) 1 den_read_runs) :=
  fn_valM (O1 := []) (N := N_read_runs) (n := 1) (m := 3) T.f_read_runs sc_read_runs rfl rfl (fun cdv A' outer s H F p E hr tk => (vss_cons (vs_setO 2 sc_read_runs.nd (v_lst va_nil)) (vss_cons (vs_forX (passes_of rfl) rfl (vix_range1 T.z_range (vx_ct (vx_binL o_add (vx_ct (vx_meth 0 4 tk T.C_Tape T.M_Tape_take G_Tape_take (hr.mono (by decide)) T.b_Tape_take (va_consF v_int va_nil) (aCons_len aNil_len') (show ("take" : Str) ∉ oNs.getD 4 [] by decide +kernel) (fun p h => by cases h; exact er_at))) (v_ct v_int)))) (vg_name 3 sc_read_runs.nd) (vss_w (O2 := [.me, .fz, .own, .un, .un]) (vss_cons (vs_setX 4 sc_read_runs.nd (vx_fun 0 tk G_need_value (hr.mono (by decide)) T.m_need_value T.k_need_value T.b_need_value va_nil aNil_len' (fun p h => by cases h; exact er_at))) (vss_one (vs_extendX 2 (vx_fz (vx_binR 0 o_rep (v_ct (v_fz (v_lst (va_consF (v_var 4) va_nil)))) (vx_ct (vx_binL o_add (vx_ct (vx_meth 0 4 tk T.C_Tape T.M_Tape_take G_Tape_take (hr.mono (by decide)) T.b_Tape_take (va_consF v_int va_nil) (aCons_len aNil_len') (show ("take" : Str) ∉ oNs.getD 4 [] by decide +kernel) (fun p h => by cases h; exact er_at))) (v_ct v_int)))))))))) (vss_one (vs_p (O1 := [.me, .fz, .fz, .un, .un]) (vs_retM (v_var 2))))))) (by first | exact .inl rfl | exact .inr rfl)
theorem ok_read_book (T : Txt K w mg A) (G_Tape_take : FnOk P w K mg base (L2.CX P w) 1 A.a_Tape_take A.d_Tape_take ["self", "many"] (spM K (cfg A) 1 den_Tape_take)) (G_need_value : FnOk P w K mg base (L2.CX P w) 2 A.a_need_value A.d_need_value ["tape"] (spM K (cfg A) 0 den_need_value)) (G_width : FnOk P w K mg base (L2.CX P w) 1 A.a_width A.d_width ["number"] (spV K (cfg A) 1 .flat den_width)) : FnOk P w K mg base (L2.CX P w) 3 A.a_read_book A.d_read_book ["tape", "many"] (spM K (cfg A) 1 den_read_book) :=
  fn_valM (O1 := []) (N := N_read_book) (n := 1) (m := 4) T.f_read_book sc_read_book rfl rfl (fun cdv A' outer s H F p E hr tk => (vss_cons (vs_setLcX 2 0 (own := [("k", 4)]) (fun p h => by cases h; exact er_at) rfl sc_read_book.nd (vix_range1 T.z_range (vx_ct (vx_binL o_add (vx_ct (vx_meth 0 4 tk T.C_Tape T.M_Tape_take G_Tape_take (hr.mono (by decide)) T.b_Tape_take (va_consF v_int va_nil) (aCons_len aNil_len') (show ("take" : Str) ∉ oNs.getD 4 [] by decide +kernel) (fun p h => by cases h; exact er_at))) (v_ct v_int)))) (blkOk_by (N := N_read_book) (sc := defScope s_read_book) (by decide +kernel)) (fun _ _ _ _ _ => (vg_name 4 sc_read_book.nd)) (fun _ _ _ _ _ => vts_nil) (fun _ _ _ _ _ => (vx_fun 0 takes0 G_need_value (hr.mono (by decide)) T.m_need_value T.k_need_value T.b_need_value va_nil aNil_len' (fun p h => by cases h; exact er_at))) (sw_true rfl rfl rfl (by decide +kernel))) (vss_cons (vs_setO 3 sc_read_book.nd (v_lst va_nil)) (vss_cons (vs_for (passes_of rfl) rfl (vi_range1 T.z_range (va_cons (v_ct (v_var 1)) va_nil)) (vg_name 4 sc_read_book.nd) (vss_w (O2 := [.me, .fz, .own, .own, .un, .un]) (vss_cons (vs_setX 5 sc_read_book.nd (vx_meth 0 4 tk T.C_Tape T.M_Tape_take G_Tape_take (hr.mono (by decide)) T.b_Tape_take (va_consF (v_callC (rk := .flat) tk G_width (hr.mono (by decide)) T.m_width T.k_width T.b_width (va_cons (v_ct (v_bin o_sub (v_ct (v_len T.z_len (va_cons (v_varO 2) va_nil))) (v_ct v_int))) va_nil) rfl (aCons_len aNil_len')) va_nil) (aCons_len aNil_len') (show ("take" : Str) ∉ oNs.getD 4 [] by decide +kernel) (fun p h => by cases h; exact er_at))) (vss_cons (vs_if (O1 := [.me, .fz, .own, .own, .fz, .fz]) (vt_cmp c_ge (v_ct (v_var 5)) (v_ct (v_len T.z_len (va_cons (v_varO 2) va_nil)))) (vss_one (vs_raiseF 3 tk T.e_BadBits)) vss_nil) (vss_one (vs_append 3 (v_ix (v_varO 2) (v_ct (v_var 5))))))))) (vss_one (vs_p (O1 := [.me, .fz, .own, .fz, .un, .un]) (vs_retM (v_var 3)))))))) (by first | exact .inl rfl | exact .inr rfl)
theorem ok_read_base (T : Txt K w mg A) (G_need_value : FnOk P w K mg base (L2.CX P w) 2 A.a_need_value A.d_need_value ["tape"] (spM K (cfg A) 0 den_need_value)) (G_Tape_take : FnOk P w K mg base (L2.CX P w) 1 A.a_Tape_take A.d_Tape_take ["self", "many"] (spM K (cfg A) 1 den_Tape_take)) : FnOk P w K mg base (L2.CX P w) 3 A.a_read_base A.d_read_base ["tape", "many"] (spM K (cfg A) 1 den_read_base) :=
  fn_valM (O1 := []) (N := N_read_base) (n := 1) (m := 5) T.f_read_base sc_read_base rfl rfl (fun cdv A' outer s H F p E hr tk => (vss_cons (vs_setX 2 sc_read_base.nd (vx_fun 0 tk G_need_value (hr.mono (by decide)) T.m_need_value T.k_need_value T.b_need_value va_nil aNil_len' (fun p h => by cases h; exact er_at))) (vss_cons (vs_setX 3 sc_read_base.nd (vx_meth 0 4 tk T.C_Tape T.M_Tape_take G_Tape_take (hr.mono (by decide)) T.b_Tape_take (va_consF v_int va_nil) (aCons_len aNil_len') (show ("take" : Str) ∉ oNs.getD 4 [] by decide +kernel) (fun p h => by cases h; exact er_at))) (vss_cons (vs_setLcX 4 0 (own := [("k", 5)]) (fun p h => by cases h; exact er_at) rfl sc_read_base.nd (vix_of (vi_range1 T.z_range (va_cons (v_ct (v_var 1)) va_nil))) (blkOk_by (N := N_read_base) (sc := defScope s_read_base) (by decide +kernel)) (fun _ _ _ _ _ => (vg_name 5 sc_read_base.nd)) (fun _ _ _ _ _ => vts_nil) (fun _ _ _ _ _ => (vx_meth 0 4 takes0 T.C_Tape T.M_Tape_take G_Tape_take (hr.mono (by decide)) T.b_Tape_take (va_consF (v_var 3) va_nil) (aCons_len aNil_len') (show ("take" : Str) ∉ oNs.getD 4 [] by decide +kernel) (fun p h => by cases h; exact er_at))) (sw_true rfl rfl rfl (by decide +kernel))) (vss_cons (vs_if (O1 := [.me, .fz, .fz, .fz, .own, .un, .un]) (vt_cmp c_is (v_ct (v_var 2)) (v_ct v_non)) (vss_one (vs_raiseF 3 tk T.e_BadBits)) vss_nil) (vss_one (vs_p (O1 := [.me, .fz, .fz, .fz, .fz, .un, .un]) (vs_retM (v_fz (v_lc (own := [("one", 6)]) rfl sc_read_base.nd (vi_list (v_var 4)) (blkOk_by (N := N_read_base) (sc := defScope s_read_base) (by decide +kernel)) (fun _ _ _ _ _ => (vg_name 6 sc_read_base.nd)) (fun _ _ _ _ _ => vts_nil) (fun _ _ _ _ _ => (v_ife (vt_cmp (c_eq hr) (v_ct (v_var 6)) (v_ct v_int)) v_non (v_bin o_sub (v_ct (v_bin o_add (v_ct (v_var 2)) (v_ct (v_var 6)))) (v_ct v_int)))))))))))))) (by first | exact .inl rfl | exact .inr rfl)
theorem ok_read_steps (T : Txt K w mg A) (G_need_value : FnOk P w K mg base (L2.CX P w) 2 A.a_need_value A.d_need_value ["tape"] (spM K (cfg A) 0 den_need_value)) (G_Tape_take : FnOk P w K mg base (L2.CX P w) 1 A.a_Tape_take A.d_Tape_take ["self", "many"] (spM K (cfg A) 1 den_Tape_take)) : FnOk P w K mg base (L2.CX P w) 3 A.a_read_steps A.d_read_steps ["tape", "many"] (spM K (cfg A) 1 den_read_steps) :=
  fn_valM (O1 := []) (N := N_read_steps) (n := 1) (m := 4) T.f_read_steps sc_read_steps rfl rfl (fun cdv A' outer s H F p E hr tk => (vss_cons (vs_setOX 2 sc_read_steps.nd (vx_lst1 (vx_fun 0 tk G_need_value (hr.mono (by decide)) T.m_need_value T.k_need_value T.b_need_value va_nil aNil_len' (fun p h => by cases h; exact er_at)))) (vss_cons (vs_setX 3 sc_read_steps.nd (vx_meth 0 4 tk T.C_Tape T.M_Tape_take G_Tape_take (hr.mono (by decide)) T.b_Tape_take (va_consF v_int va_nil) (aCons_len aNil_len') (show ("take" : Str) ∉ oNs.getD 4 [] by decide +kernel) (fun p h => by cases h; exact er_at))) (vss_cons (vs_if (O1 := [.me, .fz, .own, .fz, .un, .un]) (vt_cmp c_is (v_ct (v_ix (v_varO 2) (v_ct v_int))) (v_ct v_non)) (vss_one (vs_raiseF 3 tk T.e_BadBits)) vss_nil) (vss_cons (vs_for (passes_of rfl) rfl (vi_range1 T.z_range (va_cons (v_ct (v_bin o_sub (v_ct (v_var 1)) (v_ct v_int))) va_nil)) (vg_name 4 sc_read_steps.nd) (vss_w (O2 := [.me, .fz, .own, .fz, .un, .un]) (vss_cons (vs_setX 5 sc_read_steps.nd (vx_meth 0 4 tk T.C_Tape T.M_Tape_take G_Tape_take (hr.mono (by decide)) T.b_Tape_take (va_consF (v_var 3) va_nil) (aCons_len aNil_len') (show ("take" : Str) ∉ oNs.getD 4 [] by decide +kernel) (fun p h => by cases h; exact er_at))) (vss_one (vs_append 2 (v_bin o_add (v_ct (v_ix (v_varO 2) (v_ct (v_neg (v_ct v_int))))) (v_ct (v_ife (vt_cmp (c_eq hr) (v_ct (v_bin o_mod (v_ct (v_var 5)) (v_ct v_int))) (v_ct v_int)) (v_bin o_fdiv (v_ct (v_var 5)) (v_ct v_int)) (v_bin o_fdiv (v_ct (v_neg (v_ct (v_bin o_add (v_ct (v_var 5)) (v_ct v_int))))) (v_ct v_int)))))))))) (vss_one (vs_p (O1 := [.me, .fz, .fz, .fz, .un, .un]) (vs_retM (v_var 2))))))))) (by first | exact .inl rfl | exact .inr rfl)
theorem ok_read_values (T : Txt K w mg A) (G_need_value : FnOk P w K mg base (L2.CX P w) 2 A.a_need_value A.d_need_value ["tape"] (spM K (cfg A) 0 den_need_value)) (G_read_runs : FnOk P w K mg base (L2.CX P w) 3 A.a_read_runs A.d_read_runs ["tape", "many"] (spM K (cfg A) 1 den_read_runs)) (G_read_book : FnOk P w K mg base (L2.CX P w) 3 A.a_read_book A.d_read_book ["tape", "many"] (spM K (cfg A) 1 den_read_book)) (G_read_base : FnOk P w K mg base (L2.CX P w) 3 A.a_read_base A.d_read_base ["tape", "many"] (spM K (cfg A) 1 den_read_base)) (G_read_steps : FnOk P w K mg base (L2.CX P w) 3 A.a_read_steps A.d_read_steps ["tape", "many"] (spM K (cfg A) 1 den_read_steps)) : FnOk P w K mg base (L2.CX P w) 4 A.a_read_values A.d_read_values ["tape", "kind", "many"] (spM K (cfg A) 2 den_read_values) :=
  fn_valM (O1 := []) (N := N_read_values) (n := 2) (m := 1) T.f_read_values sc_read_values rfl rfl (fun cdv A' outer s H F p E hr tk => (vss_cons (vs_if (O1 := [.me, .fz, .fz, .un]) (vt_cmp (c_eq hr) (v_ct (v_var 1)) (v_ct v_str)) (vss_one (vs_retMX (vx_fz (vx_lc 0 (own := [("k", 3)]) (fun p h => by cases h; exact er_at) rfl sc_read_values.nd (vix_of (vi_range1 T.z_range (va_cons (v_ct (v_var 2)) va_nil))) (blkOk_by (N := N_read_values) (sc := defScope s_read_values) (by decide +kernel)) (fun _ _ _ _ _ => (vg_name 3 sc_read_values.nd)) (fun _ _ _ _ _ => vts_nil) (fun _ _ _ _ _ => (vx_fun 0 takes0 G_need_value (hr.mono (by decide)) T.m_need_value T.k_need_value T.b_need_value va_nil aNil_len' (fun p h => by cases h; exact er_at))))))) vss_nil) (vss_cons (vs_if (O1 := [.me, .fz, .fz, .un]) (vt_cmp (c_eq hr) (v_ct (v_var 1)) (v_ct v_str)) (vss_one (vs_retMX (vx_fun 0 tk G_read_runs (hr.mono (by decide)) T.m_read_runs T.k_read_runs T.b_read_runs (va_consF (v_var 2) va_nil) (aCons_len aNil_len') (fun p h => by cases h; exact er_at)))) vss_nil) (vss_cons (vs_if (O1 := [.me, .fz, .fz, .un]) (vt_cmp (c_eq hr) (v_ct (v_var 1)) (v_ct v_str)) (vss_one (vs_retMX (vx_fun 0 tk G_read_book (hr.mono (by decide)) T.m_read_book T.k_read_book T.b_read_book (va_consF (v_var 2) va_nil) (aCons_len aNil_len') (fun p h => by cases h; exact er_at)))) vss_nil) (vss_cons (vs_if (O1 := [.me, .fz, .fz, .un]) (vt_cmp (c_eq hr) (v_ct (v_var 1)) (v_ct v_str)) (vss_one (vs_retMX (vx_fun 0 tk G_read_base (hr.mono (by decide)) T.m_read_base T.k_read_base T.b_read_base (va_consF (v_var 2) va_nil) (aCons_len aNil_len') (fun p h => by cases h; exact er_at)))) vss_nil) (vss_one (vs_retMX (vx_fun 0 tk G_read_steps (hr.mono (by decide)) T.m_read_steps T.k_read_steps T.b_read_steps (va_consF (v_var 2) va_nil) (aCons_len aNil_len') (fun p h => by cases h; exact er_at))))))))) (by first | exact .inl rfl | exact .inr rfl)
theorem ok_read_block (T : Txt K w mg A) (G_Tape_take : FnOk P w K mg base (L2.CX P w) 1 A.a_Tape_take A.d_Tape_take ["self", "many"] (spM K (cfg A) 1 den_Tape_take)) (G_read_values : FnOk P w K mg base (L2.CX P w) 4 A.a_read_values A.d_read_values ["tape", "kind", "many"] (spM K (cfg A) 2 den_read_values)) (G_packed : FnOk P w K mg base (L2.CX P w) 4 A.a_packed A.d_packed ["kind", "values"] (spV K (cfg A) 2 .flat den_packed)) : FnOk P w K mg base (L2.CX P w) 5 A.a_read_block A.d_read_block ["tape"] (spM K (cfg A) 0 den_read_block) :=
  fn_valM (O1 := []) (N := N_read_block) (n := 0) (m := 6) T.f_read_block sc_read_block rfl rfl (fun cdv A' outer s H F p E hr tk => (vss_cons (vs_set 1 sc_read_block.nd (v_attrM 4 1 0 T.C_Tape)) (vss_cons (vs_setX 2 sc_read_block.nd (vx_meth 0 4 tk T.C_Tape T.M_Tape_take G_Tape_take (hr.mono (by decide)) T.b_Tape_take (va_consF v_int va_nil) (aCons_len aNil_len') (show ("take" : Str) ∉ oNs.getD 4 [] by decide +kernel) (fun p h => by cases h; exact er_at))) (vss_cons (vs_if (O1 := [.me, .fz, .fz, .un, .un, .un, .un]) (vt_cmp c_ge (v_ct (v_var 2)) (v_ct (v_len T.z_len (va_cons (v_ct (v_globT T.c_KINDS)) va_nil)))) (vss_one (vs_raiseF 3 tk T.e_BadBits)) vss_nil) (vss_cons (vs_set 3 sc_read_block.nd (v_ix (v_ct (v_globT T.c_KINDS)) (v_ct (v_var 2)))) (vss_cons (vs_setX 4 sc_read_block.nd (vx_binL o_add (vx_ct (vx_meth 0 4 tk T.C_Tape T.M_Tape_take G_Tape_take (hr.mono (by decide)) T.b_Tape_take (va_consF v_int va_nil) (aCons_len aNil_len') (show ("take" : Str) ∉ oNs.getD 4 [] by decide +kernel) (fun p h => by cases h; exact er_at))) (v_ct v_int))) (vss_cons (vs_if (O1 := [.me, .fz, .fz, .fz, .fz, .un, .un]) (vt_cmp c_gt (v_ct (v_var 4)) (v_ct (v_globI T.c_MOST_VALUES))) (vss_one (vs_raiseF 3 tk T.e_BadBits)) vss_nil) (vss_cons (vs_setX 5 sc_read_block.nd (vx_fun 0 tk G_read_values (hr.mono (by decide)) T.m_read_values T.k_read_values T.b_read_values (va_consF (v_var 3) (va_consF (v_var 4) va_nil)) (aCons_len (aCons_len aNil_len')) (fun p h => by cases h; exact er_at))) (vss_cons (vs_if (O1 := [.me, .fz, .fz, .fz, .fz, .fz, .un]) (vt_w (vw_or (vt_cmp (c_ne hr) (v_ct (v_len T.z_len (va_cons (v_ct (v_var 5)) va_nil))) (v_ct (v_var 4))) (vw_or1 (vt_val (v_ct (v_any rfl T.z_any (va_cons (v_ct (v_fz (v_lc (own := [("value", 6)]) rfl sc_read_block.nd (vi_list (v_var 5)) (blkOk_by (N := N_read_block) (sc := defScope s_read_block) (by decide +kernel)) (fun _ _ _ _ _ => (vg_name 6 sc_read_block.nd)) (fun _ _ _ _ _ => vts_nil) (fun _ _ _ _ _ => (v_and (v_ct (v_cmp c_isnot (v_ct (v_var 6)) (v_ct v_non))) (v_one (v_not (v_ct (v_chain c_le c_le (v_ct (v_neg (v_ct (v_globI T.c_MOST)))) (v_ct (v_var 6)) (v_ct (v_globI T.c_MOST))))))))))) va_nil))))))) (vss_one (vs_raiseF 3 tk T.e_BadBits)) vss_nil) (vss_cons (vs_if (O1 := [.me, .fz, .fz, .fz, .fz, .fz, .un]) (vt_cmp (c_ne hr) (v_ct (v_callC (rk := .flat) tk G_packed (hr.mono (by decide)) T.m_packed T.k_packed T.b_packed (va_cons (v_ct (v_var 3)) (va_cons (v_ct (v_var 5)) va_nil)) rfl (aCons_len (aCons_len aNil_len')))) (v_ct (v_slF (v_ct (v_attrM 4 0 0 T.C_Tape)) (vo_some (v_ct (v_var 1))) (vo_some (v_ct (v_attrM 4 1 0 T.C_Tape)))))) (vss_one (vs_raiseF 3 tk T.e_BadBits)) vss_nil) (vss_one (vs_retM (v_tup (va_consF (v_var 3) (va_consF (v_var 5) va_nil))))))))))))))) (by first | exact .inl rfl | exact .inr rfl)
theorem ok_unpacked (T : Txt K w mg A) (G_Tape_init : FnOk P w K mg base (L2.CX P w) 1 A.a_Tape_init A.d_Tape_init ["self", "bits"] (spM K (cfg A) 1 den_Tape_init)) (G_read_block : FnOk P w K mg base (L2.CX P w) 5 A.a_read_block A.d_read_block ["tape"] (spM K (cfg A) 0 den_read_block)) : FnOk P w K mg base (L2.CX P w) 6 A.a_unpacked A.d_unpacked ["bits"] (spV K (cfg A) 1 .fz den_unpacked) :=
  fn_val (O1 := []) (N := N_unpacked) (n := 1) (m := 3) T.f_unpacked sc_unpacked rfl rfl (fun cdv A' outer s H F E hr tk => (vss_cons (vs_if (O1 := [.fz, .un, .un, .un]) (vt_not (vt_val (v_ct (v_all rfl T.z_all (va_cons (v_ct (v_fz (v_lc (own := [("sign", 3)]) rfl sc_unpacked.nd (vi_str (v_ct (v_var 0))) (blkOk_by (N := N_unpacked) (sc := defScope s_unpacked) (by decide +kernel)) (fun _ _ _ _ _ => (vg_name 3 sc_unpacked.nd)) (fun _ _ _ _ _ => vts_nil) (fun _ _ _ _ _ => (v_cmp (c_in1 hr) (v_ct (v_var 3)) (v_ct v_str)))))) va_nil))))) (vss_one (vs_raiseF 3 tk T.e_BadBits)) vss_nil) (vss_newM (rk := .fz) (O' := []) 1 4 2 (fun h => by cases h) tk T.N_Tape G_Tape_init (hr.mono (by decide)) T.n_Tape T.b_Tape_init (va_consF (v_var 0) va_nil) (aCons_len aNil_len') sc_unpacked.nd (fun q hq => (vss_cons (vs_setO 2 sc_unpacked.nd (v_lst va_nil)) (vss_cons (vs_while 100 (passes_of rfl) (vt_cmp c_lt (v_ct (v_attrM 4 1 1 T.C_Tape)) (v_ct (v_len T.z_len (va_cons (v_ct (v_var 0)) va_nil)))) (vss_one (vs_appendX 2 (vx_fun 1 tk G_read_block (hr.mono (by decide)) T.m_read_block T.k_read_block T.b_read_block va_nil aNil_len' (fun p h => by cases h; exact hq))))) (vss_one (vs_p (O1 := [.fz, .me, .fz, .un]) (vs_ret (v_var 2))))))))))
theorem ok_law_cell (T : Txt K w mg A) : FnOk P w K mg base (L2.CX P w) 1 A.a_law_cell A.d_law_cell ["_law_script", "_law_k"] (spV K (cfg A) 2 .flat den_law_cell) :=
  fn_val (O1 := []) (N := N_law_cell) (n := 2) (m := 0) T.f_law_cell sc_law_cell rfl rfl (fun cdv A' outer s H F E hr tk => (vss_cons (vs_if (O1 := [.fz, .fz]) (vt_truth (v_ct (v_var 0))) (vss_one (vs_ret (v_ix (v_ct (v_var 0)) (v_ct (v_bin o_mod (v_ct (v_var 1)) (v_ct (v_len T.z_len (va_cons (v_ct (v_var 0)) va_nil)))))))) vss_nil) (vss_one (vs_ret v_int))))
theorem ok_law_mix (T : Txt K w mg A) (G_law_cell : FnOk P w K mg base (L2.CX P w) 1 A.a_law_cell A.d_law_cell ["_law_script", "_law_k"] (spV K (cfg A) 2 .flat den_law_cell)) : FnOk P w K mg base (L2.CX P w) 2 A.a_law_mix A.d_law_mix ["_law_script", "_law_k"] (spV K (cfg A) 2 .flat den_law_mix) :=
  fn_val (O1 := []) (N := N_law_mix) (n := 2) (m := 1) T.f_law_mix sc_law_mix rfl rfl (fun cdv A' outer s H F E hr tk => (vss_cons (vs_set 2 sc_law_mix.nd (v_bin o_mod (v_ct (v_bin o_add (v_ct (v_callC (rk := .flat) tk G_law_cell (hr.mono (by decide)) T.m_law_cell T.k_law_cell T.b_law_cell (va_cons (v_ct (v_var 0)) (va_cons (v_ct (v_var 1)) va_nil)) rfl (aCons_len (aCons_len aNil_len')))) (v_ct (v_bin o_mul (v_ct v_int) (v_ct (v_bin o_add (v_ct (v_var 1)) (v_ct v_int))))))) (v_ct v_int))) (vss_cons (vs_set 2 sc_law_mix.nd (v_bin o_mod (v_ct (v_bin o_mul (v_ct (v_var 2)) (v_ct v_int))) (v_ct v_int))) (vss_one (vs_ret (v_bin o_mod (v_ct (v_bin o_add (v_ct (v_bin o_mul (v_ct (v_bin o_fdiv (v_ct (v_var 2)) (v_ct v_int))) (v_ct v_int))) (v_ct (v_var 2)))) (v_ct v_int)))))))
theorem ok_law_value (T : Txt K w mg A) (G_law_mix : FnOk P w K mg base (L2.CX P w) 2 A.a_law_mix A.d_law_mix ["_law_script", "_law_k"] (spV K (cfg A) 2 .flat den_law_mix)) : FnOk P w K mg base (L2.CX P w) 3 A.a_law_value A.d_law_value ["_law_script", "_law_k"] (spV K (cfg A) 2 .flat den_law_value) :=
  fn_val (O1 := []) (N := N_law_value) (n := 2) (m := 2) T.f_law_value sc_law_value rfl rfl (fun cdv A' outer s H F E hr tk => (vss_cons (vs_set 2 sc_law_value.nd (v_callC (rk := .flat) tk G_law_mix (hr.mono (by decide)) T.m_law_mix T.k_law_mix T.b_law_mix (va_cons (v_ct (v_var 0)) (va_cons (v_ct (v_var 1)) va_nil)) rfl (aCons_len (aCons_len aNil_len')))) (vss_cons (vs_setO 3 sc_law_value.nd (v_lst (va_consF v_int (va_consF v_int (va_consF (v_neg (v_ct v_int)) (va_consF v_int (va_consF v_int (va_consF (v_neg (v_ct v_int)) (va_consF v_non (va_consF (v_bin o_mod (v_ct (v_bin o_fdiv (v_ct (v_var 2)) (v_ct v_int))) (v_ct v_int)) (va_consF (v_bin o_sub (v_ct (v_bin o_mod (v_ct (v_bin o_fdiv (v_ct (v_var 2)) (v_ct v_int))) (v_ct v_int))) (v_ct v_int)) va_nil))))))))))) (vss_one (vs_ret (v_ix (v_ct (v_fz (v_bin o_cat (v_varO 3) (v_ct (v_fz (v_lst (va_consF (v_bin o_sub (v_ct (v_bin o_mod (v_ct (v_bin o_fdiv (v_ct (v_var 2)) (v_ct v_int))) (v_ct v_int))) (v_ct v_int)) va_nil))))))) (v_ct (v_bin o_mod (v_ct (v_var 2)) (v_ct v_int)))))))))
theorem ok_law_values (T : Txt K w mg A) (G_law_mix : FnOk P w K mg base (L2.CX P w) 2 A.a_law_mix A.d_law_mix ["_law_script", "_law_k"] (spV K (cfg A) 2 .flat den_law_mix)) (G_law_value : FnOk P w K mg base (L2.CX P w) 3 A.a_law_value A.d_law_value ["_law_script", "_law_k"] (spV K (cfg A) 2 .flat den_law_value)) : FnOk P w K mg base (L2.CX P w) 4 A.a_law_values A.d_law_values ["_law_script", "_law_k", "_law_most"] (spV K (cfg A) 3 .ownf den_law_values) :=
  fn_val (O1 := []) (N := N_law_values) (n := 3) (m := 4) T.f_law_values sc_law_values rfl rfl (fun cdv A' outer s H F E hr tk => (vss_cons (vs_setO 3 sc_law_values.nd (v_lst va_nil)) (vss_cons (vs_set 4 sc_law_values.nd (v_bin o_mod (v_ct (v_callC (rk := .flat) tk G_law_mix (hr.mono (by decide)) T.m_law_mix T.k_law_mix T.b_law_mix (va_cons (v_ct (v_var 0)) (va_cons (v_ct (v_var 1)) va_nil)) rfl (aCons_len (aCons_len aNil_len')))) (v_ct v_int))) (vss_cons (vs_while 100 (passes_of rfl) (vt_cmp c_lt (v_ct (v_len T.z_len (va_cons (v_varO 3) va_nil))) (v_ct (v_bin o_mod (v_ct (v_callC (rk := .flat) tk G_law_mix (hr.mono (by decide)) T.m_law_mix T.k_law_mix T.b_law_mix (va_cons (v_ct (v_var 0)) (va_cons (v_ct (v_bin o_add (v_ct (v_var 1)) (v_ct v_int))) va_nil)) rfl (aCons_len (aCons_len aNil_len')))) (v_ct (v_bin o_add (v_ct (v_var 2)) (v_ct v_int)))))) (vss_w (O2 := [.fz, .fz, .fz, .own, .fz, .un, .un]) (vss_cons (vs_set 5 sc_law_values.nd (v_callC (rk := .flat) tk G_law_mix (hr.mono (by decide)) T.m_law_mix T.k_law_mix T.b_law_mix (va_cons (v_ct (v_var 0)) (va_cons (v_ct (v_bin o_add (v_ct (v_bin o_add (v_ct (v_var 1)) (v_ct v_int))) (v_ct (v_len T.z_len (va_cons (v_varO 3) va_nil))))) va_nil)) rfl (aCons_len (aCons_len aNil_len')))) (vss_cons (vs_set 6 sc_law_values.nd (v_callC (rk := .flat) tk G_law_value (hr.mono (by decide)) T.m_law_value T.k_law_value T.b_law_value (va_cons (v_ct (v_var 0)) (va_cons (v_ct (v_bin o_add (v_ct (v_bin o_add (v_ct (v_var 1)) (v_ct v_int))) (v_ct (v_len T.z_len (va_cons (v_varO 3) va_nil))))) va_nil)) rfl (aCons_len (aCons_len aNil_len')))) (vss_cons (vs_if (O1 := [.fz, .fz, .fz, .own, .fz, .fz, .fz]) (vt_w (vw_and (vt_cmp (c_eq hr) (v_ct (v_var 4)) (v_ct v_int)) (vw_and (vt_truth (v_varO 3)) (vw_and1 (vt_cmp c_isnot (v_ct (v_ix (v_varO 3) (v_ct (v_neg (v_ct v_int))))) (v_ct v_non)))))) (vss_one (vs_set 6 sc_law_values.nd (v_max2 rfl T.z_max (va_cons (v_ct (v_neg (v_ct v_int))) (va_cons (v_ct (v_min2 rfl T.z_min (va_cons (v_ct v_int) (va_cons (v_ct (v_bin o_sub (v_ct (v_bin o_add (v_ct (v_ix (v_varO 3) (v_ct (v_neg (v_ct v_int))))) (v_ct (v_bin o_mod (v_ct (v_bin o_fdiv (v_ct (v_var 5)) (v_ct v_int))) (v_ct v_int))))) (v_ct v_int))) va_nil)))) va_nil))))) vss_nil) (vss_cons (vs_if (O1 := [.fz, .fz, .fz, .own, .fz, .fz, .fz]) (vt_w (vw_and (vt_cmp (c_eq hr) (v_ct (v_var 4)) (v_ct v_int)) (vw_and (vt_truth (v_varO 3)) (vw_and1 (vt_cmp c_gt (v_ct (v_bin o_mod (v_ct (v_var 5)) (v_ct v_int))) (v_ct v_int)))))) (vss_one (vs_set 6 sc_law_values.nd (v_ix (v_varO 3) (v_ct (v_bin o_mod (v_ct (v_bin o_fdiv (v_ct (v_var 5)) (v_ct v_int))) (v_ct (v_len T.z_len (va_cons (v_varO 3) va_nil)))))))) vss_nil) (vss_one (vs_setO 3 sc_law_values.nd (v_bin o_cat (v_varO 3) (v_ct (v_fz (v_bin o_rep (v_ct (v_fz (v_lst (va_consF (v_var 6) va_nil)))) (v_ct (v_ife (vt_cmp (c_eq hr) (v_ct (v_var 4)) (v_ct v_int)) (v_ix (v_ct (v_fz (v_lst (va_consF v_int (va_consF v_int (va_consF v_int (va_consF v_int va_nil))))))) (v_ct (v_bin o_mod (v_ct (v_bin o_fdiv (v_ct (v_var 5)) (v_ct v_int))) (v_ct v_int)))) v_int)))))))))))))) (vss_one (vs_ret (v_slL (v_varO 3) vo_none (vo_some (v_ct (v_var 2))))))))))
theorem ok_law_need (T : Txt K w mg A) : FnOk P w K mg base (L2.CX P w) 1 A.a_law_need A.d_law_need ["_law_number"] (spV K (cfg A) 1 .flat den_law_need) :=
  fn_val (O1 := []) (N := N_law_need) (n := 1) (m := 1) T.f_law_need sc_law_need rfl rfl (fun cdv A' outer s H F E hr tk => (vss_cons (vs_set 1 sc_law_need.nd v_int) (vss_cons (vs_while 100 (passes_of rfl) (vt_cmp c_gt (v_ct (v_var 0)) (v_ct v_int)) (vss_cons (vs_set 0 sc_law_need.nd (v_bin o_fdiv (v_ct (v_var 0)) (v_ct v_int))) (vss_one (vs_set 1 sc_law_need.nd (v_bin o_add (v_ct (v_var 1)) (v_ct v_int)))))) (vss_one (vs_ret (v_var 1))))))
theorem ok_law_runs (T : Txt K w mg A) : FnOk P w K mg base (L2.CX P w) 1 A.a_law_runs A.d_law_runs ["_law_values_here"] (spV K (cfg A) 1 .flat den_law_runs) :=
  fn_val (O1 := []) (N := N_law_runs) (n := 1) (m := 1) T.f_law_runs sc_law_runs rfl rfl (fun cdv A' outer s H F E hr tk => (vss_one (vs_ret (v_bin o_add (v_ct v_int) (v_ct (v_len T.z_len (va_cons (v_ct (v_fz (v_lc (own := [("_law_k", 1)]) rfl sc_law_runs.nd (vi_range2 T.z_range (va_cons (v_ct v_int) (va_cons (v_ct (v_len T.z_len (va_cons (v_ct (v_var 0)) va_nil))) va_nil))) (blkOk_by (N := N_law_runs) (sc := defScope s_law_runs) (by decide +kernel)) (fun _ _ _ _ _ => (vg_name 1 sc_law_runs.nd)) (fun _ _ _ _ _ => (vts_one (vt_cmp (c_ne hr) (v_ct (v_ix (v_ct (v_var 0)) (v_ct (v_var 1)))) (v_ct (v_ix (v_ct (v_var 0)) (v_ct (v_bin o_sub (v_ct (v_var 1)) (v_ct v_int)))))))) (fun _ _ _ _ _ => (v_var 1))))) va_nil)))))))
theorem ok_law_book (T : Txt K w mg A) : FnOk P w K mg base (L2.CX P w) 1 A.a_law_book A.d_law_book ["_law_values_here"] (spV K (cfg A) 1 .ownf den_law_book) :=
  fn_val (O1 := []) (N := N_law_book) (n := 1) (m := 1) T.f_law_book sc_law_book rfl rfl (fun cdv A' outer s H F E hr tk => (vss_one (vs_ret (v_lc (own := [("_law_k", 1)]) rfl sc_law_book.nd (vi_range1 T.z_range (va_cons (v_ct (v_len T.z_len (va_cons (v_ct (v_var 0)) va_nil))) va_nil)) (blkOk_by (N := N_law_book) (sc := defScope s_law_book) (by decide +kernel)) (fun _ _ _ _ _ => (vg_name 1 sc_law_book.nd)) (fun _ _ _ _ _ => (vts_one (vt_cmp (c_notin1 hr) (v_ct (v_ix (v_ct (v_var 0)) (v_ct (v_var 1)))) (v_ct (v_fz (v_slL (v_ct (v_var 0)) vo_none (vo_some (v_ct (v_var 1))))))))) (fun _ _ _ _ _ => (v_ix (v_ct (v_var 0)) (v_ct (v_var 1))))))))
theorem ok_law_above (T : Txt K w mg A) : FnOk P w K mg base (L2.CX P w) 1 A.a_law_above A.d_law_above ["_law_values_here"] (spV K (cfg A) 1 .ownf den_law_above) :=
  fn_val (O1 := []) (N := N_law_above) (n := 1) (m := 2) T.f_law_above sc_law_above rfl rfl (fun cdv A' outer s H F E hr tk => (vss_cons (vs_setO 1 sc_law_above.nd (v_lc (own := [("_law_value_here", 2)]) rfl sc_law_above.nd (vi_list (v_var 0)) (blkOk_by (N := N_law_above) (sc := defScope s_law_above) (by decide +kernel)) (fun _ _ _ _ _ => (vg_name 2 sc_law_above.nd)) (fun _ _ _ _ _ => (vts_one (vt_cmp c_isnot (v_ct (v_var 2)) (v_ct v_non)))) (fun _ _ _ _ _ => (v_var 2)))) (vss_one (vs_ret (v_lc (own := [("_law_value_here", 2)]) rfl sc_law_above.nd (vi_list (v_var 0)) (blkOk_by (N := N_law_above) (sc := defScope s_law_above) (by decide +kernel)) (fun _ _ _ _ _ => (vg_name 2 sc_law_above.nd)) (fun _ _ _ _ _ => vts_nil) (fun _ _ _ _ _ => (v_ife (vt_cmp c_is (v_ct (v_var 2)) (v_ct v_non)) v_int (v_bin o_add (v_ct (v_bin o_sub (v_ct (v_var 2)) (v_ct (v_minL rfl T.z_min (va_cons (v_varO 1) va_nil))))) (v_ct v_int)))))))))
theorem ok_law_steps (T : Txt K w mg A) : FnOk P w K mg base (L2.CX P w) 1 A.a_law_steps A.d_law_steps ["_law_values_here"] (spV K (cfg A) 1 .ownf den_law_steps) :=
  fn_val (O1 := []) (N := N_law_steps) (n := 1) (m := 3) T.f_law_steps sc_law_steps rfl rfl (fun cdv A' outer s H F E hr tk => (vss_cons (vs_setO 1 sc_law_steps.nd (v_lst va_nil)) (vss_cons (vs_for (passes_of rfl) rfl (vi_range2 T.z_range (va_cons (v_ct v_int) (va_cons (v_ct (v_len T.z_len (va_cons (v_ct (v_var 0)) va_nil))) va_nil))) (vg_name 2 sc_law_steps.nd) (vss_w (O2 := [.fz, .own, .un, .un]) (vss_cons (vs_set 3 sc_law_steps.nd (v_bin o_sub (v_ct (v_ix (v_ct (v_var 0)) (v_ct (v_var 2)))) (v_ct (v_ix (v_ct (v_var 0)) (v_ct (v_bin o_sub (v_ct (v_var 2)) (v_ct v_int))))))) (vss_one (vs_append 1 (v_ife (vt_cmp c_ge (v_ct (v_var 3)) (v_ct v_int)) (v_bin o_mul (v_ct v_int) (v_ct (v_var 3))) (v_bin o_sub (v_ct (v_bin o_mul (v_ct (v_neg (v_ct v_int))) (v_ct (v_var 3)))) (v_ct v_int)))))))) (vss_one (vs_retO 1)))))
theorem ok_law_room (T : Txt K w mg A) (G_law_runs : FnOk P w K mg base (L2.CX P w) 1 A.a_law_runs A.d_law_runs ["_law_values_here"] (spV K (cfg A) 1 .flat den_law_runs)) (G_law_book : FnOk P w K mg base (L2.CX P w) 1 A.a_law_book A.d_law_book ["_law_values_here"] (spV K (cfg A) 1 .ownf den_law_book)) (G_law_need : FnOk P w K mg base (L2.CX P w) 1 A.a_law_need A.d_law_need ["_law_number"] (spV K (cfg A) 1 .flat den_law_need)) (G_law_above : FnOk P w K mg base (L2.CX P w) 1 A.a_law_above A.d_law_above ["_law_values_here"] (spV K (cfg A) 1 .ownf den_law_above)) (G_law_steps : FnOk P w K mg base (L2.CX P w) 1 A.a_law_steps A.d_law_steps ["_law_values_here"] (spV K (cfg A) 1 .ownf den_law_steps)) : FnOk P w K mg base (L2.CX P w) 2 A.a_law_room A.d_law_room ["_law_kind", "_law_values_here"] (spV K (cfg A) 2 .flat den_law_room) :=
  fn_val (O1 := []) (N := N_law_room) (n := 2) (m := 2) T.f_law_room sc_law_room rfl rfl (fun cdv A' outer s H F E hr tk => (vss_cons (vs_set 2 sc_law_room.nd (v_len T.z_len (va_cons (v_ct (v_var 1)) va_nil))) (vss_cons (vs_if (O1 := [.fz, .fz, .fz, .un]) (vt_cmp (c_eq hr) (v_ct (v_var 0)) (v_ct v_str)) (vss_one (vs_ret (v_bin o_add (v_ct v_int) (v_ct (v_bin o_mul (v_ct v_int) (v_ct (v_var 2))))))) vss_nil) (vss_cons (vs_if (O1 := [.fz, .fz, .fz, .un]) (vt_cmp (c_eq hr) (v_ct (v_var 0)) (v_ct v_str)) (vss_one (vs_ret (v_bin o_add (v_ct v_int) (v_ct (v_bin o_mul (v_ct v_int) (v_ct (v_callC (rk := .flat) tk G_law_runs (hr.mono (by decide)) T.m_law_runs T.k_law_runs T.b_law_runs (va_cons (v_ct (v_var 1)) va_nil) rfl (aCons_len aNil_len')))))))) vss_nil) (vss_cons (vs_if (O1 := [.fz, .fz, .fz, .un]) (vt_cmp (c_eq hr) (v_ct (v_var 0)) (v_ct v_str)) (vss_cons (vs_set 3 sc_law_room.nd (v_len T.z_len (va_cons (v_ct (v_fz (v_callC (rk := .ownf) tk G_law_book (hr.mono (by decide)) T.m_law_book T.k_law_book T.b_law_book (va_cons (v_ct (v_var 1)) va_nil) rfl (aCons_len aNil_len')))) va_nil))) (vss_one (vs_ret (v_ife (vt_cmp c_gt (v_ct (v_var 3)) (v_ct v_int)) v_non (v_bin o_add (v_ct (v_bin o_add (v_ct v_int) (v_ct (v_bin o_mul (v_ct v_int) (v_ct (v_var 3)))))) (v_ct (v_bin o_mul (v_ct (v_var 2)) (v_ct (v_callC (rk := .flat) tk G_law_need (hr.mono (by decide)) T.m_law_need T.k_law_need T.b_law_need (va_cons (v_ct (v_bin o_sub (v_ct (v_var 3)) (v_ct v_int))) va_nil) rfl (aCons_len aNil_len')))))))))) vss_nil) (vss_cons (vs_if (O1 := [.fz, .fz, .fz, .un]) (vt_cmp (c_eq hr) (v_ct (v_var 0)) (v_ct v_str)) (vss_one (vs_ret (v_bin o_add (v_ct v_int) (v_ct (v_bin o_mul (v_ct (v_var 2)) (v_ct (v_callC (rk := .flat) tk G_law_need (hr.mono (by decide)) T.m_law_need T.k_law_need T.b_law_need (va_cons (v_ct (v_maxL rfl T.z_max (va_cons (v_ct (v_fz (v_callC (rk := .ownf) tk G_law_above (hr.mono (by decide)) T.m_law_above T.k_law_above T.b_law_above (va_cons (v_ct (v_var 1)) va_nil) rfl (aCons_len aNil_len')))) va_nil))) va_nil) rfl (aCons_len aNil_len')))))))) vss_nil) (vss_cons (vs_if (O1 := [.fz, .fz, .fz, .un]) (vt_cmp (c_in1 hr) (v_ct v_non) (v_ct (v_var 1))) (vss_one (vs_ret v_non)) vss_nil) (vss_one (vs_ret (v_bin o_add (v_ct v_int) (v_ct (v_bin o_mul (v_ct (v_bin o_sub (v_ct (v_var 2)) (v_ct v_int))) (v_ct (v_callC (rk := .flat) tk G_law_need (hr.mono (by decide)) T.m_law_need T.k_law_need T.b_law_need (va_cons (v_ct (v_maxL rfl T.z_max (va_cons (v_ct (v_fz (v_bin o_cat (v_ct (v_fz (v_lst (va_consF v_int va_nil)))) (v_ct (v_fz (v_callC (rk := .ownf) tk G_law_steps (hr.mono (by decide)) T.m_law_steps T.k_law_steps T.b_law_steps (va_cons (v_ct (v_var 1)) va_nil) rfl (aCons_len aNil_len'))))))) va_nil))) va_nil) rfl (aCons_len aNil_len')))))))))))))))
theorem ok_law_bits (T : Txt K w mg A) : FnOk P w K mg base (L2.CX P w) 1 A.a_law_bits A.d_law_bits ["_law_number", "_law_many"] (spV K (cfg A) 2 .flat den_law_bits) :=
  fn_val (O1 := []) (N := N_law_bits) (n := 2) (m := 1) T.f_law_bits sc_law_bits rfl rfl (fun cdv A' outer s H F E hr tk => (vss_cons (vs_set 2 sc_law_bits.nd v_str) (vss_cons (vs_while 100 (passes_of rfl) (vt_cmp c_lt (v_ct (v_len T.z_len (va_cons (v_ct (v_var 2)) va_nil))) (v_ct (v_var 1))) (vss_cons (vs_set 2 sc_law_bits.nd (v_bin o_add (v_ct (v_ix (v_ct v_str) (v_ct (v_bin o_mod (v_ct (v_var 0)) (v_ct v_int))))) (v_ct (v_var 2)))) (vss_one (vs_set 0 sc_law_bits.nd (v_bin o_fdiv (v_ct (v_var 0)) (v_ct v_int)))))) (vss_one (vs_ret (v_var 2))))))
theorem ok_law_plain (T : Txt K w mg A) (G_law_bits : FnOk P w K mg base (L2.CX P w) 1 A.a_law_bits A.d_law_bits ["_law_number", "_law_many"] (spV K (cfg A) 2 .flat den_law_bits)) : FnOk P w K mg base (L2.CX P w) 2 A.a_law_plain A.d_law_plain ["_law_value_here"] (spV K (cfg A) 1 .flat den_law_plain) :=
  fn_val (O1 := []) (N := N_law_plain) (n := 1) (m := 0) T.f_law_plain sc_law_plain rfl rfl (fun cdv A' outer s H F E hr tk => (vss_one (vs_ret (v_callC (rk := .flat) tk G_law_bits (hr.mono (by decide)) T.m_law_bits T.k_law_bits T.b_law_bits (va_cons (v_ct (v_ife (vt_cmp c_is (v_ct (v_var 0)) (v_ct v_non)) v_int (v_bin o_add (v_ct (v_var 0)) (v_ct v_int)))) (va_cons (v_ct v_int) va_nil)) rfl (aCons_len (aCons_len aNil_len'))))))
theorem ok_law_packed (T : Txt K w mg A) (G_law_bits : FnOk P w K mg base (L2.CX P w) 1 A.a_law_bits A.d_law_bits ["_law_number", "_law_many"] (spV K (cfg A) 2 .flat den_law_bits)) (G_law_plain : FnOk P w K mg base (L2.CX P w) 2 A.a_law_plain A.d_law_plain ["_law_value_here"] (spV K (cfg A) 1 .flat den_law_plain)) (G_law_book : FnOk P w K mg base (L2.CX P w) 1 A.a_law_book A.d_law_book ["_law_values_here"] (spV K (cfg A) 1 .ownf den_law_book)) (G_law_need : FnOk P w K mg base (L2.CX P w) 1 A.a_law_need A.d_law_need ["_law_number"] (spV K (cfg A) 1 .flat den_law_need)) (G_law_above : FnOk P w K mg base (L2.CX P w) 1 A.a_law_above A.d_law_above ["_law_values_here"] (spV K (cfg A) 1 .ownf den_law_above)) (G_law_steps : FnOk P w K mg base (L2.CX P w) 1 A.a_law_steps A.d_law_steps ["_law_values_here"] (spV K (cfg A) 1 .ownf den_law_steps)) : FnOk P w K mg base (L2.CX P w) 3 A.a_law_packed A.d_law_packed ["_law_kind", "_law_values_here"] (spV K (cfg A) 2 .flat den_law_packed) :=
  fn_val (O1 := []) (N := N_law_packed) (n := 2) (m := 12) T.f_law_packed sc_law_packed rfl rfl (fun cdv A' outer s H F E hr tk => (vss_cons (vs_set 2 sc_law_packed.nd (v_index hr (v_ct (v_fz (v_lst (va_consF v_str (va_consF v_str (va_consF v_str (va_consF v_str (va_consF v_str va_nil)))))))) (v_ct (v_var 0)))) (vss_cons (vs_set 3 sc_law_packed.nd (v_bin o_add (v_ct (v_callC (rk := .flat) tk G_law_bits (hr.mono (by decide)) T.m_law_bits T.k_law_bits T.b_law_bits (va_cons (v_ct (v_var 2)) (va_cons (v_ct v_int) va_nil)) rfl (aCons_len (aCons_len aNil_len')))) (v_ct (v_callC (rk := .flat) tk G_law_bits (hr.mono (by decide)) T.m_law_bits T.k_law_bits T.b_law_bits (va_cons (v_ct (v_bin o_sub (v_ct (v_len T.z_len (va_cons (v_ct (v_var 1)) va_nil))) (v_ct v_int))) (va_cons (v_ct v_int) va_nil)) rfl (aCons_len (aCons_len aNil_len')))))) (vss_cons (vs_if (O1 := [.fz, .fz, .fz, .fz, .un, .un, .un, .un, .un, .un, .un, .un, .un, .un]) (vt_cmp (c_eq hr) (v_ct (v_var 0)) (v_ct v_str)) (vss_one (vs_ret (v_bin o_add (v_ct (v_var 3)) (v_ct (v_join (v_ct v_str) (v_ct (v_fz (v_lc (own := [("_law_value_here", 11)]) rfl sc_law_packed.nd (vi_list (v_var 1)) (blkOk_by (N := N_law_packed) (sc := defScope s_law_packed) (by decide +kernel)) (fun _ _ _ _ _ => (vg_name 11 sc_law_packed.nd)) (fun _ _ _ _ _ => vts_nil) (fun _ _ _ _ _ => (v_callC (rk := .flat) takes0 G_law_plain (hr.mono (by decide)) T.m_law_plain T.k_law_plain T.b_law_plain (va_cons (v_ct (v_var 11)) va_nil) rfl (aCons_len aNil_len'))))))))))) vss_nil) (vss_cons (vs_if (O1 := [.fz, .fz, .fz, .fz, .un, .un, .un, .un, .un, .un, .un, .un, .un, .un]) (vt_cmp (c_eq hr) (v_ct (v_var 0)) (v_ct v_str)) (vss_cons (vs_setLc 4 (own := [("_law_k", 6)]) rfl sc_law_packed.nd (vi_range1 T.z_range (va_cons (v_ct (v_len T.z_len (va_cons (v_ct (v_var 1)) va_nil))) va_nil)) (blkOk_by (N := N_law_packed) (sc := defScope s_law_packed) (by decide +kernel)) (fun _ _ _ _ _ => (vg_name 6 sc_law_packed.nd)) (fun _ _ _ _ _ => (vts_one (vt_w (vw_or (vt_cmp (c_eq hr) (v_ct (v_var 6)) (v_ct v_int)) (vw_or1 (vt_cmp (c_ne hr) (v_ct (v_ix (v_ct (v_var 1)) (v_ct (v_var 6)))) (v_ct (v_ix (v_ct (v_var 1)) (v_ct (v_bin o_sub (v_ct (v_var 6)) (v_ct v_int))))))))))) (fun _ _ _ _ _ => (v_var 6)) (sw_true rfl rfl rfl (by decide +kernel))) (vss_cons (vs_append 4 (v_len T.z_len (va_cons (v_ct (v_var 1)) va_nil))) (vss_cons (vs_setO 5 sc_law_packed.nd (v_lst (va_consF (v_callC (rk := .flat) tk G_law_bits (hr.mono (by decide)) T.m_law_bits T.k_law_bits T.b_law_bits (va_cons (v_ct (v_bin o_sub (v_ct (v_len T.z_len (va_cons (v_varO 4) va_nil))) (v_ct v_int))) (va_cons (v_ct v_int) va_nil)) rfl (aCons_len (aCons_len aNil_len'))) va_nil))) (vss_cons (vs_for (passes_of rfl) rfl (vi_range1 T.z_range (va_cons (v_ct (v_bin o_sub (v_ct (v_len T.z_len (va_cons (v_varO 4) va_nil))) (v_ct v_int))) va_nil)) (vg_name 6 sc_law_packed.nd) (vss_w (O2 := [.fz, .fz, .fz, .fz, .own, .own, .un, .un, .un, .un, .un, .un, .un, .un]) (vss_cons (vs_set 7 sc_law_packed.nd (v_bin o_sub (v_ct (v_ix (v_varO 4) (v_ct (v_bin o_add (v_ct (v_var 6)) (v_ct v_int))))) (v_ct (v_ix (v_varO 4) (v_ct (v_var 6)))))) (vss_one (vs_append 5 (v_bin o_add (v_ct (v_callC (rk := .flat) tk G_law_plain (hr.mono (by decide)) T.m_law_plain T.k_law_plain T.b_law_plain (va_cons (v_ct (v_ix (v_ct (v_var 1)) (v_ct (v_ix (v_varO 4) (v_ct (v_var 6)))))) va_nil) rfl (aCons_len aNil_len'))) (v_ct (v_callC (rk := .flat) tk G_law_bits (hr.mono (by decide)) T.m_law_bits T.k_law_bits T.b_law_bits (va_cons (v_ct (v_bin o_sub (v_ct (v_var 7)) (v_ct v_int))) (va_cons (v_ct v_int) va_nil)) rfl (aCons_len (aCons_len aNil_len')))))))))) (vss_one (vs_ret (v_bin o_add (v_ct (v_var 3)) (v_ct (v_join (v_ct v_str) (v_varO 5)))))))))) vss_nil) (vss_cons (vs_if (O1 := [.fz, .fz, .fz, .fz, .un, .un, .un, .un, .un, .un, .un, .un, .un, .un]) (vt_cmp (c_eq hr) (v_ct (v_var 0)) (v_ct v_str)) (vss_cons (vs_setO 8 sc_law_packed.nd (v_callC (rk := .ownf) tk G_law_book (hr.mono (by decide)) T.m_law_book T.k_law_book T.b_law_book (va_cons (v_ct (v_var 1)) va_nil) rfl (aCons_len aNil_len'))) (vss_cons (vs_set 7 sc_law_packed.nd (v_callC (rk := .flat) tk G_law_need (hr.mono (by decide)) T.m_law_need T.k_law_need T.b_law_need (va_cons (v_ct (v_bin o_sub (v_ct (v_len T.z_len (va_cons (v_varO 8) va_nil))) (v_ct v_int))) va_nil) rfl (aCons_len aNil_len'))) (vss_cons (vs_p (O1 := [.fz, .fz, .fz, .fz, .un, .un, .un, .fz, .fz, .un, .un, .un, .un, .un]) (vs_setO 5 sc_law_packed.nd (v_bin o_cat (v_ct (v_fz (v_lst (va_consF (v_callC (rk := .flat) tk G_law_bits (hr.mono (by decide)) T.m_law_bits T.k_law_bits T.b_law_bits (va_cons (v_ct (v_bin o_sub (v_ct (v_len T.z_len (va_cons (v_ct (v_var 8)) va_nil))) (v_ct v_int))) (va_cons (v_ct v_int) va_nil)) rfl (aCons_len (aCons_len aNil_len'))) va_nil)))) (v_ct (v_fz (v_lc (own := [("_law_word", 12)]) rfl sc_law_packed.nd (vi_list (v_var 8)) (blkOk_by (N := N_law_packed) (sc := defScope s_law_packed) (by decide +kernel)) (fun _ _ _ _ _ => (vg_name 12 sc_law_packed.nd)) (fun _ _ _ _ _ => vts_nil) (fun _ _ _ _ _ => (v_callC (rk := .flat) takes0 G_law_plain (hr.mono (by decide)) T.m_law_plain T.k_law_plain T.b_law_plain (va_cons (v_ct (v_var 12)) va_nil) rfl (aCons_len aNil_len'))))))))) (vss_one (vs_ret (v_bin o_add (v_ct (v_var 3)) (v_ct (v_join (v_ct v_str) (v_ct (v_fz (v_bin o_cat (v_varO 5) (v_ct (v_fz (v_lc (own := [("_law_value_here", 11)]) rfl sc_law_packed.nd (vi_list (v_var 1)) (blkOk_by (N := N_law_packed) (sc := defScope s_law_packed) (by decide +kernel)) (fun _ _ _ _ _ => (vg_name 11 sc_law_packed.nd)) (fun _ _ _ _ _ => vts_nil) (fun _ _ _ _ _ => (v_callC (rk := .flat) takes0 G_law_bits (hr.mono (by decide)) T.m_law_bits T.k_law_bits T.b_law_bits (va_cons (v_ct (v_index hr (v_ct (v_var 8)) (v_ct (v_var 11)))) (va_cons (v_ct (v_var 7)) va_nil)) rfl (aCons_len (aCons_len aNil_len')))))))))))))))))) vss_nil) (vss_cons (vs_setO 9 sc_law_packed.nd (v_ife (vt_cmp (c_eq hr) (v_ct (v_var 0)) (v_ct v_str)) (v_callC (rk := .ownf) tk G_law_above (hr.mono (by decide)) T.m_law_above T.k_law_above T.b_law_above (va_cons (v_ct (v_var 1)) va_nil) rfl (aCons_len aNil_len')) (v_callC (rk := .ownf) tk G_law_steps (hr.mono (by decide)) T.m_law_steps T.k_law_steps T.b_law_steps (va_cons (v_ct (v_var 1)) va_nil) rfl (aCons_len aNil_len')))) (vss_cons (vs_set 10 sc_law_packed.nd (v_ix (v_ct (v_var 1)) (v_ct v_int))) (vss_cons (vs_if (O1 := [.fz, .fz, .fz, .fz, .un, .un, .un, .un, .un, .own, .fz, .un, .un, .un]) (vt_cmp (c_eq hr) (v_ct (v_var 0)) (v_ct v_str)) (vss_one (vs_set 10 sc_law_packed.nd (v_minD hr rfl T.z_min (v_ct (v_fz (v_lc (own := [("_law_value_here", 11)]) rfl sc_law_packed.nd (vi_list (v_var 1)) (blkOk_by (N := N_law_packed) (sc := defScope s_law_packed) (by decide +kernel)) (fun _ _ _ _ _ => (vg_name 11 sc_law_packed.nd)) (fun _ _ _ _ _ => (vts_one (vt_cmp c_isnot (v_ct (v_var 11)) (v_ct v_non)))) (fun _ _ _ _ _ => (v_var 11))))) v_int))) vss_nil) (vss_cons (vs_set 7 sc_law_packed.nd (v_callC (rk := .flat) tk G_law_need (hr.mono (by decide)) T.m_law_need T.k_law_need T.b_law_need (va_cons (v_ct (v_maxL rfl T.z_max (va_cons (v_ct (v_fz (v_bin o_cat (v_ct (v_fz (v_lst (va_consF v_int va_nil)))) (v_varO 9)))) va_nil))) va_nil) rfl (aCons_len aNil_len'))) (vss_cons (vs_set 3 sc_law_packed.nd (v_bin o_add (v_ct (v_bin o_add (v_ct (v_var 3)) (v_ct (v_callC (rk := .flat) tk G_law_plain (hr.mono (by decide)) T.m_law_plain T.k_law_plain T.b_law_plain (va_cons (v_ct (v_var 10)) va_nil) rfl (aCons_len aNil_len'))))) (v_ct (v_callC (rk := .flat) tk G_law_bits (hr.mono (by decide)) T.m_law_bits T.k_law_bits T.b_law_bits (va_cons (v_ct (v_var 7)) (va_cons (v_ct v_int) va_nil)) rfl (aCons_len (aCons_len aNil_len')))))) (vss_one (vs_p (O1 := [.fz, .fz, .fz, .fz, .un, .un, .un, .fz, .un, .fz, .fz, .un, .un, .un]) (vs_ret (v_bin o_add (v_ct (v_var 3)) (v_ct (v_join (v_ct v_str) (v_ct (v_fz (v_lc (own := [("_law_one", 13)]) rfl sc_law_packed.nd (vi_list (v_var 9)) (blkOk_by (N := N_law_packed) (sc := defScope s_law_packed) (by decide +kernel)) (fun _ _ _ _ _ => (vg_name 13 sc_law_packed.nd)) (fun _ _ _ _ _ => vts_nil) (fun _ _ _ _ _ => (v_callC (rk := .flat) takes0 G_law_bits (hr.mono (by decide)) T.m_law_bits T.k_law_bits T.b_law_bits (va_cons (v_ct (v_var 13)) (va_cons (v_ct (v_var 7)) va_nil)) rfl (aCons_len (aCons_len aNil_len'))))))))))))))))))))))))
theorem ok_law (T : Txt K w mg A) (G_law_mix : FnOk P w K mg base (L2.CX P w) 2 A.a_law_mix A.d_law_mix ["_law_script", "_law_k"] (spV K (cfg A) 2 .flat den_law_mix)) (G_law_values : FnOk P w K mg base (L2.CX P w) 4 A.a_law_values A.d_law_values ["_law_script", "_law_k", "_law_most"] (spV K (cfg A) 3 .ownf den_law_values)) (G_law_room : FnOk P w K mg base (L2.CX P w) 2 A.a_law_room A.d_law_room ["_law_kind", "_law_values_here"] (spV K (cfg A) 2 .flat den_law_room)) (G_packed : FnOk P w K mg base (L2.CX P w) 4 A.a_packed A.d_packed ["kind", "values"] (spV K (cfg A) 2 .flat den_packed)) (G_room : FnOk P w K mg base (L2.CX P w) 3 A.a_room A.d_room ["kind", "values"] (spV K (cfg A) 2 .flat den_room)) (G_law_packed : FnOk P w K mg base (L2.CX P w) 3 A.a_law_packed A.d_law_packed ["_law_kind", "_law_values_here"] (spV K (cfg A) 2 .flat den_law_packed)) (G_unpacked : FnOk P w K mg base (L2.CX P w) 6 A.a_unpacked A.d_unpacked ["bits"] (spV K (cfg A) 1 .fz den_unpacked)) : FnOk P w K mg base (L2.CX P w) 7 A.a_law A.d_law ["_law_script"] (spV K (cfg A) 1 .flat den_law) :=
  fn_val (O1 := []) (N := N_law) (n := 1) (m := 10) T.f_law sc_law rfl rfl (fun cdv A' outer s H F E hr tk => (vss_cons (vs_set 1 sc_law.nd v_str) (vss_cons (vs_setO 2 sc_law.nd (v_lst va_nil)) (vss_cons (vs_for (passes_of rfl) rfl (vi_range1 T.z_range (va_cons (v_ct (v_bin o_mod (v_ct (v_callC (rk := .flat) tk G_law_mix (hr.mono (by decide)) T.m_law_mix T.k_law_mix T.b_law_mix (va_cons (v_ct (v_var 0)) (va_cons (v_ct v_int) va_nil)) rfl (aCons_len (aCons_len aNil_len')))) (v_ct v_int))) va_nil)) (vg_name 3 sc_law.nd) (vss_w (O2 := [.fz, .fz, .own, .un, .un, .un, .un, .un, .un, .un, .un]) (vss_cons (vs_set 4 sc_law.nd (v_orT (v_fz (v_callC (rk := .ownf) tk G_law_values (hr.mono (by decide)) T.m_law_values T.k_law_values T.b_law_values (va_cons (v_ct (v_var 0)) (va_cons (v_ct (v_bin o_add (v_ct v_int) (v_ct (v_bin o_mul (v_ct v_int) (v_ct (v_var 3)))))) (va_cons (v_ct v_int) va_nil))) rfl (aCons_len (aCons_len (aCons_len aNil_len'))))) (v_one (v_fz (v_lst (va_consF v_non va_nil)))))) (vss_cons (vs_set 5 sc_law.nd (v_ix (v_ct (v_fz (v_lst (va_consF v_str (va_consF v_str (va_consF v_str (va_consF v_str (va_consF v_str va_nil)))))))) (v_ct (v_bin o_mod (v_ct (v_callC (rk := .flat) tk G_law_mix (hr.mono (by decide)) T.m_law_mix T.k_law_mix T.b_law_mix (va_cons (v_ct (v_var 0)) (va_cons (v_ct (v_bin o_add (v_ct v_int) (v_ct (v_bin o_mul (v_ct v_int) (v_ct (v_var 3)))))) va_nil)) rfl (aCons_len (aCons_len aNil_len')))) (v_ct v_int))))) (vss_cons (vs_if (O1 := [.fz, .fz, .own, .fz, .fz, .fz, .un, .un, .un, .un, .un]) (vt_cmp c_is (v_ct (v_callC (rk := .flat) tk G_law_room (hr.mono (by decide)) T.m_law_room T.k_law_room T.b_law_room (va_cons (v_ct (v_var 5)) (va_cons (v_ct (v_var 4)) va_nil)) rfl (aCons_len (aCons_len aNil_len')))) (v_ct v_non)) (vss_one (vs_set 5 sc_law.nd v_str)) vss_nil) (vss_cons (vs_setO 6 sc_law.nd (v_list T.z_list (va_cons (v_ct (v_var 4)) va_nil))) (vss_cons (vs_set 7 sc_law.nd (v_callC (rk := .flat) tk G_packed (hr.mono (by decide)) T.m_packed T.k_packed T.b_packed (va_cons (v_ct (v_var 5)) (va_cons (v_varO 6) va_nil)) rfl (aCons_len (aCons_len aNil_len')))) (vss_cons (vs_if (O1 := [.fz, .fz, .own, .fz, .fz, .fz, .own, .fz, .un, .un, .un]) (vt_w (vw_or (vt_cmp (c_ne hr) (v_ct (v_var 7)) (v_ct (v_callC (rk := .flat) tk G_law_packed (hr.mono (by decide)) T.m_law_packed T.k_law_packed T.b_law_packed (va_cons (v_ct (v_var 5)) (va_cons (v_ct (v_var 4)) va_nil)) rfl (aCons_len (aCons_len aNil_len'))))) (vw_or (vt_cmp (c_ne hr) (v_ct (v_len T.z_len (va_cons (v_ct (v_var 7)) va_nil))) (v_ct (v_callC (rk := .flat) tk G_room (hr.mono (by decide)) T.m_room T.k_room T.b_room (va_cons (v_ct (v_var 5)) (va_cons (v_varO 6) va_nil)) rfl (aCons_len (aCons_len aNil_len'))))) (vw_or1 (vt_cmp (c_ne hr) (v_varO 6) (v_ct (v_var 4))))))) (vss_one (vs_ret v_bl)) vss_nil) (vss_cons (vs_set 1 sc_law.nd (v_bin o_add (v_ct (v_var 1)) (v_ct (v_var 7)))) (vss_one (vs_append 2 (v_tup (va_consF (v_var 5) (va_consF (v_var 4) va_nil)))))))))))))) (vss_cons (vs_for (passes_of rfl) rfl (vi_range1 T.z_range (va_cons (v_ct v_int) va_nil)) (vg_name 8 sc_law.nd) (vss_w (O2 := [.fz, .fz, .own, .un, .un, .un, .un, .un, .un, .un, .un]) (vss_tell (O2 := []) 9 5 4 (passes_of rfl) rfl tk G_unpacked (hr.mono (by decide)) T.m_unpacked T.k_unpacked T.b_unpacked (va_consF (v_var 1) va_nil) (aCons_len aNil_len') sc_law.nd (vt_w (vw_or (vt_cmp (c_ne hr) (v_ct (v_var 9)) (v_varO 2)) (vw_or1 (vt_not (vt_val (v_ct (v_all rfl T.z_all (va_cons (v_ct (v_fz (v_lc (own := [("_law_one", 10)]) rfl sc_law.nd (vi_list (v_var 9)) (blkOk_by (N := N_law) (sc := defScope s_law) (by decide +kernel)) (fun _ _ _ _ _ => (vg_name 10 sc_law.nd)) (fun _ _ _ _ _ => vts_nil) (fun _ _ _ _ _ => (v_and (v_ct (v_isi (T := "tuple") T.z_isinstance T.z_tuple (v_ct (v_var 10)))) (v_one (v_isi (T := "list") T.z_isinstance T.z_list (v_ct (v_ix (v_ct (v_var 10)) (v_ct v_int)))))))))) va_nil)))))))) (vss_one (vs_ret v_bl))))) (vss_one (vs_ret v_bl)))))))
end
end VL

set_option Elab.async false
set_option linter.all false
set_option maxRecDepth 100000
set_option maxHeartbeats 4000000
namespace VL
open PySem PySem.Spec PyProof.Rows L2
set_option maxHeartbeats 0 in
theorem all_mk {P : Program} {w : World} {K : PySem.W.Frag} {h : Heap} {mg : Str → Option Value} {fa : Addr} {f_width f_bits_of f_Tape_init f_Tape_take f_look_values f_code f_value_of f_runs_of f_book_of f_base_of f_base_codes f_step_codes f_widest f_room f_packed f_need_value f_read_runs f_read_book f_read_base f_read_steps f_read_values f_read_block f_unpacked f_law_cell f_law_mix f_law_value f_law_values f_law_need f_law_runs f_law_book f_law_above f_law_steps f_law_room f_law_bits f_law_plain f_law_packed f_law x_RowsError x_BadValue x_NoPacking x_BadBits y_Tape : Addr}
    {od_width an_width : Option Addr} {sl_width : Array (Option Value)} {oc_width kV_width dc_width pm_width cd_width ct_width : Value}
    {od_bits_of an_bits_of : Option Addr} {sl_bits_of : Array (Option Value)} {oc_bits_of kV_bits_of dc_bits_of pm_bits_of cd_bits_of ct_bits_of : Value}
    {od_Tape_init an_Tape_init : Option Addr} {sl_Tape_init : Array (Option Value)} {oc_Tape_init kV_Tape_init dc_Tape_init pm_Tape_init cd_Tape_init ct_Tape_init : Value}
    {od_Tape_take an_Tape_take : Option Addr} {sl_Tape_take : Array (Option Value)} {oc_Tape_take kV_Tape_take dc_Tape_take pm_Tape_take cd_Tape_take ct_Tape_take : Value}
    {od_look_values an_look_values : Option Addr} {sl_look_values : Array (Option Value)} {oc_look_values kV_look_values dc_look_values pm_look_values cd_look_values ct_look_values : Value}
    {od_code an_code : Option Addr} {sl_code : Array (Option Value)} {oc_code kV_code dc_code pm_code cd_code ct_code : Value}
    {od_value_of an_value_of : Option Addr} {sl_value_of : Array (Option Value)} {oc_value_of kV_value_of dc_value_of pm_value_of cd_value_of ct_value_of : Value}
    {od_runs_of an_runs_of : Option Addr} {sl_runs_of : Array (Option Value)} {oc_runs_of kV_runs_of dc_runs_of pm_runs_of cd_runs_of ct_runs_of : Value}
    {od_book_of an_book_of : Option Addr} {sl_book_of : Array (Option Value)} {oc_book_of kV_book_of dc_book_of pm_book_of cd_book_of ct_book_of : Value}
    {od_base_of an_base_of : Option Addr} {sl_base_of : Array (Option Value)} {oc_base_of kV_base_of dc_base_of pm_base_of cd_base_of ct_base_of : Value}
    {od_base_codes an_base_codes : Option Addr} {sl_base_codes : Array (Option Value)} {oc_base_codes kV_base_codes dc_base_codes pm_base_codes cd_base_codes ct_base_codes : Value}
    {od_step_codes an_step_codes : Option Addr} {sl_step_codes : Array (Option Value)} {oc_step_codes kV_step_codes dc_step_codes pm_step_codes cd_step_codes ct_step_codes : Value}
    {od_widest an_widest : Option Addr} {sl_widest : Array (Option Value)} {oc_widest kV_widest dc_widest pm_widest cd_widest ct_widest : Value}
    {od_room an_room : Option Addr} {sl_room : Array (Option Value)} {oc_room kV_room dc_room pm_room cd_room ct_room : Value}
    {od_packed an_packed : Option Addr} {sl_packed : Array (Option Value)} {oc_packed kV_packed dc_packed pm_packed cd_packed ct_packed : Value}
    {od_need_value an_need_value : Option Addr} {sl_need_value : Array (Option Value)} {oc_need_value kV_need_value dc_need_value pm_need_value cd_need_value ct_need_value : Value}
    {od_read_runs an_read_runs : Option Addr} {sl_read_runs : Array (Option Value)} {oc_read_runs kV_read_runs dc_read_runs pm_read_runs cd_read_runs ct_read_runs : Value}
    {od_read_book an_read_book : Option Addr} {sl_read_book : Array (Option Value)} {oc_read_book kV_read_book dc_read_book pm_read_book cd_read_book ct_read_book : Value}
    {od_read_base an_read_base : Option Addr} {sl_read_base : Array (Option Value)} {oc_read_base kV_read_base dc_read_base pm_read_base cd_read_base ct_read_base : Value}
    {od_read_steps an_read_steps : Option Addr} {sl_read_steps : Array (Option Value)} {oc_read_steps kV_read_steps dc_read_steps pm_read_steps cd_read_steps ct_read_steps : Value}
    {od_read_values an_read_values : Option Addr} {sl_read_values : Array (Option Value)} {oc_read_values kV_read_values dc_read_values pm_read_values cd_read_values ct_read_values : Value}
    {od_read_block an_read_block : Option Addr} {sl_read_block : Array (Option Value)} {oc_read_block kV_read_block dc_read_block pm_read_block cd_read_block ct_read_block : Value}
    {od_unpacked an_unpacked : Option Addr} {sl_unpacked : Array (Option Value)} {oc_unpacked kV_unpacked dc_unpacked pm_unpacked cd_unpacked ct_unpacked : Value}
    {od_law_cell an_law_cell : Option Addr} {sl_law_cell : Array (Option Value)} {oc_law_cell kV_law_cell dc_law_cell pm_law_cell cd_law_cell ct_law_cell : Value}
    {od_law_mix an_law_mix : Option Addr} {sl_law_mix : Array (Option Value)} {oc_law_mix kV_law_mix dc_law_mix pm_law_mix cd_law_mix ct_law_mix : Value}
    {od_law_value an_law_value : Option Addr} {sl_law_value : Array (Option Value)} {oc_law_value kV_law_value dc_law_value pm_law_value cd_law_value ct_law_value : Value}
    {od_law_values an_law_values : Option Addr} {sl_law_values : Array (Option Value)} {oc_law_values kV_law_values dc_law_values pm_law_values cd_law_values ct_law_values : Value}
    {od_law_need an_law_need : Option Addr} {sl_law_need : Array (Option Value)} {oc_law_need kV_law_need dc_law_need pm_law_need cd_law_need ct_law_need : Value}
    {od_law_runs an_law_runs : Option Addr} {sl_law_runs : Array (Option Value)} {oc_law_runs kV_law_runs dc_law_runs pm_law_runs cd_law_runs ct_law_runs : Value}
    {od_law_book an_law_book : Option Addr} {sl_law_book : Array (Option Value)} {oc_law_book kV_law_book dc_law_book pm_law_book cd_law_book ct_law_book : Value}
    {od_law_above an_law_above : Option Addr} {sl_law_above : Array (Option Value)} {oc_law_above kV_law_above dc_law_above pm_law_above cd_law_above ct_law_above : Value}
    {od_law_steps an_law_steps : Option Addr} {sl_law_steps : Array (Option Value)} {oc_law_steps kV_law_steps dc_law_steps pm_law_steps cd_law_steps ct_law_steps : Value}
    {od_law_room an_law_room : Option Addr} {sl_law_room : Array (Option Value)} {oc_law_room kV_law_room dc_law_room pm_law_room cd_law_room ct_law_room : Value}
    {od_law_bits an_law_bits : Option Addr} {sl_law_bits : Array (Option Value)} {oc_law_bits kV_law_bits dc_law_bits pm_law_bits cd_law_bits ct_law_bits : Value}
    {od_law_plain an_law_plain : Option Addr} {sl_law_plain : Array (Option Value)} {oc_law_plain kV_law_plain dc_law_plain pm_law_plain cd_law_plain ct_law_plain : Value}
    {od_law_packed an_law_packed : Option Addr} {sl_law_packed : Array (Option Value)} {oc_law_packed kV_law_packed dc_law_packed pm_law_packed cd_law_packed ct_law_packed : Value}
    {od_law an_law : Option Addr} {sl_law : Array (Option Value)} {oc_law kV_law dc_law pm_law cd_law ct_law : Value}
    {kt_HEAD : Tok}
    {ka_KINDS : Addr} {ks_KINDS : Array (Option Value)} {kn_KINDS : Nat} {kt_KINDS_0 kt_KINDS_1 kt_KINDS_2 kt_KINDS_3 kt_KINDS_4 : Tok}
    {kt_MOST : Tok}
    {kt_MOST_VALUES : Tok}
    {kt_MOST_WORDS : Tok}
    {kt_VALUE : Tok} (X : K.In h) (G : h.Ns mainGlobals mg) (hfa : mg "law" = some (.ref fa))
    (a_width : PySem.W.nsIn K mainGlobals "width" = some (some (.ref f_width)))
    (l_width : K.lookup f_width = some ⟨oc_width, od_width, .func (PySem.W.fnOf "width" "width" (defArgs s_width) (defBody s_width) (defScope s_width) .none kV_width dc_width pm_width an_width cd_width ct_width), sl_width⟩)
    (c_width : PySem.W.codeIn K cd_width "width" = true)
    (k_width : PySem.W.keepIn K (.ref f_width) = true)
    (a_bits_of : PySem.W.nsIn K mainGlobals "bits_of" = some (some (.ref f_bits_of)))
    (l_bits_of : K.lookup f_bits_of = some ⟨oc_bits_of, od_bits_of, .func (PySem.W.fnOf "bits_of" "bits_of" (defArgs s_bits_of) (defBody s_bits_of) (defScope s_bits_of) .none kV_bits_of dc_bits_of pm_bits_of an_bits_of cd_bits_of ct_bits_of), sl_bits_of⟩)
    (c_bits_of : PySem.W.codeIn K cd_bits_of "bits_of" = true)
    (k_bits_of : PySem.W.keepIn K (.ref f_bits_of) = true)
    (ay_Tape : PySem.W.nsIn K mainGlobals "Tape" = some (some (.ref y_Tape)))
    (a_Tape_init : PySem.W.findIn K (.ref y_Tape) "__init__" = some (some (.ref f_Tape_init)))
    (is_Tape_init : PySem.W.isFn K (.ref f_Tape_init) = true)
    (l_Tape_init : K.lookup f_Tape_init = some ⟨oc_Tape_init, od_Tape_init, .func (PySem.W.fnOf "__init__" "Tape.__init__" (defArgs s_Tape_init) (defBody s_Tape_init) (defScope s_Tape_init) .none kV_Tape_init dc_Tape_init pm_Tape_init an_Tape_init cd_Tape_init ct_Tape_init), sl_Tape_init⟩)
    (c_Tape_init : PySem.W.codeIn K cd_Tape_init "Tape.__init__" = true)
    (k_Tape_init : PySem.W.keepIn K (.ref f_Tape_init) = true)
    (a_Tape_take : PySem.W.findIn K (.ref y_Tape) "take" = some (some (.ref f_Tape_take)))
    (is_Tape_take : PySem.W.isFn K (.ref f_Tape_take) = true)
    (l_Tape_take : K.lookup f_Tape_take = some ⟨oc_Tape_take, od_Tape_take, .func (PySem.W.fnOf "take" "Tape.take" (defArgs s_Tape_take) (defBody s_Tape_take) (defScope s_Tape_take) .none kV_Tape_take dc_Tape_take pm_Tape_take an_Tape_take cd_Tape_take ct_Tape_take), sl_Tape_take⟩)
    (c_Tape_take : PySem.W.codeIn K cd_Tape_take "Tape.take" = true)
    (k_Tape_take : PySem.W.keepIn K (.ref f_Tape_take) = true)
    (a_look_values : PySem.W.nsIn K mainGlobals "look_values" = some (some (.ref f_look_values)))
    (l_look_values : K.lookup f_look_values = some ⟨oc_look_values, od_look_values, .func (PySem.W.fnOf "look_values" "look_values" (defArgs s_look_values) (defBody s_look_values) (defScope s_look_values) .none kV_look_values dc_look_values pm_look_values an_look_values cd_look_values ct_look_values), sl_look_values⟩)
    (c_look_values : PySem.W.codeIn K cd_look_values "look_values" = true)
    (k_look_values : PySem.W.keepIn K (.ref f_look_values) = true)
    (a_code : PySem.W.nsIn K mainGlobals "code" = some (some (.ref f_code)))
    (l_code : K.lookup f_code = some ⟨oc_code, od_code, .func (PySem.W.fnOf "code" "code" (defArgs s_code) (defBody s_code) (defScope s_code) .none kV_code dc_code pm_code an_code cd_code ct_code), sl_code⟩)
    (c_code : PySem.W.codeIn K cd_code "code" = true)
    (k_code : PySem.W.keepIn K (.ref f_code) = true)
    (a_value_of : PySem.W.nsIn K mainGlobals "value_of" = some (some (.ref f_value_of)))
    (l_value_of : K.lookup f_value_of = some ⟨oc_value_of, od_value_of, .func (PySem.W.fnOf "value_of" "value_of" (defArgs s_value_of) (defBody s_value_of) (defScope s_value_of) .none kV_value_of dc_value_of pm_value_of an_value_of cd_value_of ct_value_of), sl_value_of⟩)
    (c_value_of : PySem.W.codeIn K cd_value_of "value_of" = true)
    (k_value_of : PySem.W.keepIn K (.ref f_value_of) = true)
    (a_runs_of : PySem.W.nsIn K mainGlobals "runs_of" = some (some (.ref f_runs_of)))
    (l_runs_of : K.lookup f_runs_of = some ⟨oc_runs_of, od_runs_of, .func (PySem.W.fnOf "runs_of" "runs_of" (defArgs s_runs_of) (defBody s_runs_of) (defScope s_runs_of) .none kV_runs_of dc_runs_of pm_runs_of an_runs_of cd_runs_of ct_runs_of), sl_runs_of⟩)
    (c_runs_of : PySem.W.codeIn K cd_runs_of "runs_of" = true)
    (k_runs_of : PySem.W.keepIn K (.ref f_runs_of) = true)
    (a_book_of : PySem.W.nsIn K mainGlobals "book_of" = some (some (.ref f_book_of)))
    (l_book_of : K.lookup f_book_of = some ⟨oc_book_of, od_book_of, .func (PySem.W.fnOf "book_of" "book_of" (defArgs s_book_of) (defBody s_book_of) (defScope s_book_of) .none kV_book_of dc_book_of pm_book_of an_book_of cd_book_of ct_book_of), sl_book_of⟩)
    (c_book_of : PySem.W.codeIn K cd_book_of "book_of" = true)
    (k_book_of : PySem.W.keepIn K (.ref f_book_of) = true)
    (a_base_of : PySem.W.nsIn K mainGlobals "base_of" = some (some (.ref f_base_of)))
    (l_base_of : K.lookup f_base_of = some ⟨oc_base_of, od_base_of, .func (PySem.W.fnOf "base_of" "base_of" (defArgs s_base_of) (defBody s_base_of) (defScope s_base_of) .none kV_base_of dc_base_of pm_base_of an_base_of cd_base_of ct_base_of), sl_base_of⟩)
    (c_base_of : PySem.W.codeIn K cd_base_of "base_of" = true)
    (k_base_of : PySem.W.keepIn K (.ref f_base_of) = true)
    (a_base_codes : PySem.W.nsIn K mainGlobals "base_codes" = some (some (.ref f_base_codes)))
    (l_base_codes : K.lookup f_base_codes = some ⟨oc_base_codes, od_base_codes, .func (PySem.W.fnOf "base_codes" "base_codes" (defArgs s_base_codes) (defBody s_base_codes) (defScope s_base_codes) .none kV_base_codes dc_base_codes pm_base_codes an_base_codes cd_base_codes ct_base_codes), sl_base_codes⟩)
    (c_base_codes : PySem.W.codeIn K cd_base_codes "base_codes" = true)
    (k_base_codes : PySem.W.keepIn K (.ref f_base_codes) = true)
    (a_step_codes : PySem.W.nsIn K mainGlobals "step_codes" = some (some (.ref f_step_codes)))
    (l_step_codes : K.lookup f_step_codes = some ⟨oc_step_codes, od_step_codes, .func (PySem.W.fnOf "step_codes" "step_codes" (defArgs s_step_codes) (defBody s_step_codes) (defScope s_step_codes) .none kV_step_codes dc_step_codes pm_step_codes an_step_codes cd_step_codes ct_step_codes), sl_step_codes⟩)
    (c_step_codes : PySem.W.codeIn K cd_step_codes "step_codes" = true)
    (k_step_codes : PySem.W.keepIn K (.ref f_step_codes) = true)
    (a_widest : PySem.W.nsIn K mainGlobals "widest" = some (some (.ref f_widest)))
    (l_widest : K.lookup f_widest = some ⟨oc_widest, od_widest, .func (PySem.W.fnOf "widest" "widest" (defArgs s_widest) (defBody s_widest) (defScope s_widest) .none kV_widest dc_widest pm_widest an_widest cd_widest ct_widest), sl_widest⟩)
    (c_widest : PySem.W.codeIn K cd_widest "widest" = true)
    (k_widest : PySem.W.keepIn K (.ref f_widest) = true)
    (a_room : PySem.W.nsIn K mainGlobals "room" = some (some (.ref f_room)))
    (l_room : K.lookup f_room = some ⟨oc_room, od_room, .func (PySem.W.fnOf "room" "room" (defArgs s_room) (defBody s_room) (defScope s_room) .none kV_room dc_room pm_room an_room cd_room ct_room), sl_room⟩)
    (c_room : PySem.W.codeIn K cd_room "room" = true)
    (k_room : PySem.W.keepIn K (.ref f_room) = true)
    (a_packed : PySem.W.nsIn K mainGlobals "packed" = some (some (.ref f_packed)))
    (l_packed : K.lookup f_packed = some ⟨oc_packed, od_packed, .func (PySem.W.fnOf "packed" "packed" (defArgs s_packed) (defBody s_packed) (defScope s_packed) .none kV_packed dc_packed pm_packed an_packed cd_packed ct_packed), sl_packed⟩)
    (c_packed : PySem.W.codeIn K cd_packed "packed" = true)
    (k_packed : PySem.W.keepIn K (.ref f_packed) = true)
    (a_need_value : PySem.W.nsIn K mainGlobals "need_value" = some (some (.ref f_need_value)))
    (l_need_value : K.lookup f_need_value = some ⟨oc_need_value, od_need_value, .func (PySem.W.fnOf "need_value" "need_value" (defArgs s_need_value) (defBody s_need_value) (defScope s_need_value) .none kV_need_value dc_need_value pm_need_value an_need_value cd_need_value ct_need_value), sl_need_value⟩)
    (c_need_value : PySem.W.codeIn K cd_need_value "need_value" = true)
    (k_need_value : PySem.W.keepIn K (.ref f_need_value) = true)
    (a_read_runs : PySem.W.nsIn K mainGlobals "read_runs" = some (some (.ref f_read_runs)))
    (l_read_runs : K.lookup f_read_runs = some ⟨oc_read_runs, od_read_runs, .func (PySem.W.fnOf "read_runs" "read_runs" (defArgs s_read_runs) (defBody s_read_runs) (defScope s_read_runs) .none kV_read_runs dc_read_runs pm_read_runs an_read_runs cd_read_runs ct_read_runs), sl_read_runs⟩)
    (c_read_runs : PySem.W.codeIn K cd_read_runs "read_runs" = true)
    (k_read_runs : PySem.W.keepIn K (.ref f_read_runs) = true)
    (a_read_book : PySem.W.nsIn K mainGlobals "read_book" = some (some (.ref f_read_book)))
    (l_read_book : K.lookup f_read_book = some ⟨oc_read_book, od_read_book, .func (PySem.W.fnOf "read_book" "read_book" (defArgs s_read_book) (defBody s_read_book) (defScope s_read_book) .none kV_read_book dc_read_book pm_read_book an_read_book cd_read_book ct_read_book), sl_read_book⟩)
    (c_read_book : PySem.W.codeIn K cd_read_book "read_book" = true)
    (k_read_book : PySem.W.keepIn K (.ref f_read_book) = true)
    (a_read_base : PySem.W.nsIn K mainGlobals "read_base" = some (some (.ref f_read_base)))
    (l_read_base : K.lookup f_read_base = some ⟨oc_read_base, od_read_base, .func (PySem.W.fnOf "read_base" "read_base" (defArgs s_read_base) (defBody s_read_base) (defScope s_read_base) .none kV_read_base dc_read_base pm_read_base an_read_base cd_read_base ct_read_base), sl_read_base⟩)
    (c_read_base : PySem.W.codeIn K cd_read_base "read_base" = true)
    (k_read_base : PySem.W.keepIn K (.ref f_read_base) = true)
    (a_read_steps : PySem.W.nsIn K mainGlobals "read_steps" = some (some (.ref f_read_steps)))
    (l_read_steps : K.lookup f_read_steps = some ⟨oc_read_steps, od_read_steps, .func (PySem.W.fnOf "read_steps" "read_steps" (defArgs s_read_steps) (defBody s_read_steps) (defScope s_read_steps) .none kV_read_steps dc_read_steps pm_read_steps an_read_steps cd_read_steps ct_read_steps), sl_read_steps⟩)
    (c_read_steps : PySem.W.codeIn K cd_read_steps "read_steps" = true)
    (k_read_steps : PySem.W.keepIn K (.ref f_read_steps) = true)
    (a_read_values : PySem.W.nsIn K mainGlobals "read_values" = some (some (.ref f_read_values)))
    (l_read_values : K.lookup f_read_values = some ⟨oc_read_values, od_read_values, .func (PySem.W.fnOf "read_values" "read_values" (defArgs s_read_values) (defBody s_read_values) (defScope s_read_values) .none kV_read_values dc_read_values pm_read_values an_read_values cd_read_values ct_read_values), sl_read_values⟩)
    (c_read_values : PySem.W.codeIn K cd_read_values "read_values" = true)
    (k_read_values : PySem.W.keepIn K (.ref f_read_values) = true)
    (a_read_block : PySem.W.nsIn K mainGlobals "read_block" = some (some (.ref f_read_block)))
    (l_read_block : K.lookup f_read_block = some ⟨oc_read_block, od_read_block, .func (PySem.W.fnOf "read_block" "read_block" (defArgs s_read_block) (defBody s_read_block) (defScope s_read_block) .none kV_read_block dc_read_block pm_read_block an_read_block cd_read_block ct_read_block), sl_read_block⟩)
    (c_read_block : PySem.W.codeIn K cd_read_block "read_block" = true)
    (k_read_block : PySem.W.keepIn K (.ref f_read_block) = true)
    (a_unpacked : PySem.W.nsIn K mainGlobals "unpacked" = some (some (.ref f_unpacked)))
    (l_unpacked : K.lookup f_unpacked = some ⟨oc_unpacked, od_unpacked, .func (PySem.W.fnOf "unpacked" "unpacked" (defArgs s_unpacked) (defBody s_unpacked) (defScope s_unpacked) .none kV_unpacked dc_unpacked pm_unpacked an_unpacked cd_unpacked ct_unpacked), sl_unpacked⟩)
    (c_unpacked : PySem.W.codeIn K cd_unpacked "unpacked" = true)
    (k_unpacked : PySem.W.keepIn K (.ref f_unpacked) = true)
    (a_law_cell : PySem.W.nsIn K mainGlobals "_law_cell" = some (some (.ref f_law_cell)))
    (l_law_cell : K.lookup f_law_cell = some ⟨oc_law_cell, od_law_cell, .func (PySem.W.fnOf "_law_cell" "_law_cell" (defArgs s_law_cell) (defBody s_law_cell) (defScope s_law_cell) .none kV_law_cell dc_law_cell pm_law_cell an_law_cell cd_law_cell ct_law_cell), sl_law_cell⟩)
    (c_law_cell : PySem.W.codeIn K cd_law_cell "_law_cell" = true)
    (k_law_cell : PySem.W.keepIn K (.ref f_law_cell) = true)
    (a_law_mix : PySem.W.nsIn K mainGlobals "_law_mix" = some (some (.ref f_law_mix)))
    (l_law_mix : K.lookup f_law_mix = some ⟨oc_law_mix, od_law_mix, .func (PySem.W.fnOf "_law_mix" "_law_mix" (defArgs s_law_mix) (defBody s_law_mix) (defScope s_law_mix) .none kV_law_mix dc_law_mix pm_law_mix an_law_mix cd_law_mix ct_law_mix), sl_law_mix⟩)
    (c_law_mix : PySem.W.codeIn K cd_law_mix "_law_mix" = true)
    (k_law_mix : PySem.W.keepIn K (.ref f_law_mix) = true)
    (a_law_value : PySem.W.nsIn K mainGlobals "_law_value" = some (some (.ref f_law_value)))
    (l_law_value : K.lookup f_law_value = some ⟨oc_law_value, od_law_value, .func (PySem.W.fnOf "_law_value" "_law_value" (defArgs s_law_value) (defBody s_law_value) (defScope s_law_value) .none kV_law_value dc_law_value pm_law_value an_law_value cd_law_value ct_law_value), sl_law_value⟩)
    (c_law_value : PySem.W.codeIn K cd_law_value "_law_value" = true)
    (k_law_value : PySem.W.keepIn K (.ref f_law_value) = true)
    (a_law_values : PySem.W.nsIn K mainGlobals "_law_values" = some (some (.ref f_law_values)))
    (l_law_values : K.lookup f_law_values = some ⟨oc_law_values, od_law_values, .func (PySem.W.fnOf "_law_values" "_law_values" (defArgs s_law_values) (defBody s_law_values) (defScope s_law_values) .none kV_law_values dc_law_values pm_law_values an_law_values cd_law_values ct_law_values), sl_law_values⟩)
    (c_law_values : PySem.W.codeIn K cd_law_values "_law_values" = true)
    (k_law_values : PySem.W.keepIn K (.ref f_law_values) = true)
    (a_law_need : PySem.W.nsIn K mainGlobals "_law_need" = some (some (.ref f_law_need)))
    (l_law_need : K.lookup f_law_need = some ⟨oc_law_need, od_law_need, .func (PySem.W.fnOf "_law_need" "_law_need" (defArgs s_law_need) (defBody s_law_need) (defScope s_law_need) .none kV_law_need dc_law_need pm_law_need an_law_need cd_law_need ct_law_need), sl_law_need⟩)
    (c_law_need : PySem.W.codeIn K cd_law_need "_law_need" = true)
    (k_law_need : PySem.W.keepIn K (.ref f_law_need) = true)
    (a_law_runs : PySem.W.nsIn K mainGlobals "_law_runs" = some (some (.ref f_law_runs)))
    (l_law_runs : K.lookup f_law_runs = some ⟨oc_law_runs, od_law_runs, .func (PySem.W.fnOf "_law_runs" "_law_runs" (defArgs s_law_runs) (defBody s_law_runs) (defScope s_law_runs) .none kV_law_runs dc_law_runs pm_law_runs an_law_runs cd_law_runs ct_law_runs), sl_law_runs⟩)
    (c_law_runs : PySem.W.codeIn K cd_law_runs "_law_runs" = true)
    (k_law_runs : PySem.W.keepIn K (.ref f_law_runs) = true)
    (a_law_book : PySem.W.nsIn K mainGlobals "_law_book" = some (some (.ref f_law_book)))
    (l_law_book : K.lookup f_law_book = some ⟨oc_law_book, od_law_book, .func (PySem.W.fnOf "_law_book" "_law_book" (defArgs s_law_book) (defBody s_law_book) (defScope s_law_book) .none kV_law_book dc_law_book pm_law_book an_law_book cd_law_book ct_law_book), sl_law_book⟩)
    (c_law_book : PySem.W.codeIn K cd_law_book "_law_book" = true)
    (k_law_book : PySem.W.keepIn K (.ref f_law_book) = true)
    (a_law_above : PySem.W.nsIn K mainGlobals "_law_above" = some (some (.ref f_law_above)))
    (l_law_above : K.lookup f_law_above = some ⟨oc_law_above, od_law_above, .func (PySem.W.fnOf "_law_above" "_law_above" (defArgs s_law_above) (defBody s_law_above) (defScope s_law_above) .none kV_law_above dc_law_above pm_law_above an_law_above cd_law_above ct_law_above), sl_law_above⟩)
    (c_law_above : PySem.W.codeIn K cd_law_above "_law_above" = true)
    (k_law_above : PySem.W.keepIn K (.ref f_law_above) = true)
    (a_law_steps : PySem.W.nsIn K mainGlobals "_law_steps" = some (some (.ref f_law_steps)))
    (l_law_steps : K.lookup f_law_steps = some ⟨oc_law_steps, od_law_steps, .func (PySem.W.fnOf "_law_steps" "_law_steps" (defArgs s_law_steps) (defBody s_law_steps) (defScope s_law_steps) .none kV_law_steps dc_law_steps pm_law_steps an_law_steps cd_law_steps ct_law_steps), sl_law_steps⟩)
    (c_law_steps : PySem.W.codeIn K cd_law_steps "_law_steps" = true)
    (k_law_steps : PySem.W.keepIn K (.ref f_law_steps) = true)
    (a_law_room : PySem.W.nsIn K mainGlobals "_law_room" = some (some (.ref f_law_room)))
    (l_law_room : K.lookup f_law_room = some ⟨oc_law_room, od_law_room, .func (PySem.W.fnOf "_law_room" "_law_room" (defArgs s_law_room) (defBody s_law_room) (defScope s_law_room) .none kV_law_room dc_law_room pm_law_room an_law_room cd_law_room ct_law_room), sl_law_room⟩)
    (c_law_room : PySem.W.codeIn K cd_law_room "_law_room" = true)
    (k_law_room : PySem.W.keepIn K (.ref f_law_room) = true)
    (a_law_bits : PySem.W.nsIn K mainGlobals "_law_bits" = some (some (.ref f_law_bits)))
    (l_law_bits : K.lookup f_law_bits = some ⟨oc_law_bits, od_law_bits, .func (PySem.W.fnOf "_law_bits" "_law_bits" (defArgs s_law_bits) (defBody s_law_bits) (defScope s_law_bits) .none kV_law_bits dc_law_bits pm_law_bits an_law_bits cd_law_bits ct_law_bits), sl_law_bits⟩)
    (c_law_bits : PySem.W.codeIn K cd_law_bits "_law_bits" = true)
    (k_law_bits : PySem.W.keepIn K (.ref f_law_bits) = true)
    (a_law_plain : PySem.W.nsIn K mainGlobals "_law_plain" = some (some (.ref f_law_plain)))
    (l_law_plain : K.lookup f_law_plain = some ⟨oc_law_plain, od_law_plain, .func (PySem.W.fnOf "_law_plain" "_law_plain" (defArgs s_law_plain) (defBody s_law_plain) (defScope s_law_plain) .none kV_law_plain dc_law_plain pm_law_plain an_law_plain cd_law_plain ct_law_plain), sl_law_plain⟩)
    (c_law_plain : PySem.W.codeIn K cd_law_plain "_law_plain" = true)
    (k_law_plain : PySem.W.keepIn K (.ref f_law_plain) = true)
    (a_law_packed : PySem.W.nsIn K mainGlobals "_law_packed" = some (some (.ref f_law_packed)))
    (l_law_packed : K.lookup f_law_packed = some ⟨oc_law_packed, od_law_packed, .func (PySem.W.fnOf "_law_packed" "_law_packed" (defArgs s_law_packed) (defBody s_law_packed) (defScope s_law_packed) .none kV_law_packed dc_law_packed pm_law_packed an_law_packed cd_law_packed ct_law_packed), sl_law_packed⟩)
    (c_law_packed : PySem.W.codeIn K cd_law_packed "_law_packed" = true)
    (k_law_packed : PySem.W.keepIn K (.ref f_law_packed) = true)
    (a_law : PySem.W.nsIn K mainGlobals "law" = some (some (.ref f_law)))
    (l_law : K.lookup f_law = some ⟨oc_law, od_law, .func (PySem.W.fnOf "law" "law" (defArgs s_law) (defBody s_law) (defScope s_law) .none kV_law dc_law pm_law an_law cd_law ct_law), sl_law⟩)
    (c_law : PySem.W.codeIn K cd_law "law" = true)
    (k_law : PySem.W.keepIn K (.ref f_law) = true)
    (ax_RowsError : PySem.W.nsIn K mainGlobals "RowsError" = some (some (.ref x_RowsError)))
    (ax_BadValue : PySem.W.nsIn K mainGlobals "BadValue" = some (some (.ref x_BadValue)))
    (ax_NoPacking : PySem.W.nsIn K mainGlobals "NoPacking" = some (some (.ref x_NoPacking)))
    (ax_BadBits : PySem.W.nsIn K mainGlobals "BadBits" = some (some (.ref x_BadBits)))
    (q_BadBits : PySem.W.excIn K x_BadBits [.type "ValueError", .type "Exception", .type "BaseException", .type "object"] "ValueError.__new__" = true)
    (kc_BadBits : PySem.W.keepIn K (.ref x_BadBits) = true)
    (q_BadValue : PySem.W.excIn K x_BadValue [.type "ValueError", .type "Exception", .type "BaseException", .type "object"] "ValueError.__new__" = true)
    (kc_BadValue : PySem.W.keepIn K (.ref x_BadValue) = true)
    (q_NoPacking : PySem.W.excIn K x_NoPacking [.type "ValueError", .type "Exception", .type "BaseException", .type "object"] "ValueError.__new__" = true)
    (kc_NoPacking : PySem.W.keepIn K (.ref x_NoPacking) = true)
    (sb_BadBits : PySem.W.subIn K (.ref x_BadBits) (.type "BaseException") = some true)
    (ty_BadBits : PySem.W.typeIn K (.ref x_BadBits) = some (.type "type"))
    (sb_BadValue : PySem.W.subIn K (.ref x_BadValue) (.type "BaseException") = some true)
    (ty_BadValue : PySem.W.typeIn K (.ref x_BadValue) = some (.type "type"))
    (sb_NoPacking : PySem.W.subIn K (.ref x_NoPacking) (.type "BaseException") = some true)
    (ty_NoPacking : PySem.W.typeIn K (.ref x_NoPacking) = some (.type "type"))
    (pg_Tape : PySem.W.plainGet K y_Tape Str.empty = true)
    (hc_Tape : PySem.W.hasDictIn K y_Tape = true)
    (po_Tape : PySem.W.plainOver K y_Tape = true)
    (sa_Tape : PySem.W.findIn K (.ref y_Tape) "__setattr__" = some (some (.builtin "object.__setattr__")))
    (mk_Tape : PySem.W.makesIn K y_Tape = true)
    (kp_Tape : PySem.W.keepIn K (.ref y_Tape) = true)
    (na_Tape_signs : PySem.W.findIn K (.ref y_Tape) "signs" = some none)
    (na_Tape_here : PySem.W.findIn K (.ref y_Tape) "here" = some none)
    (z_all : PySem.W.nsIn K mainGlobals "all" = some none)
    (z_any : PySem.W.nsIn K mainGlobals "any" = some none)
    (z_int : PySem.W.nsIn K mainGlobals "int" = some none)
    (z_isinstance : PySem.W.nsIn K mainGlobals "isinstance" = some none)
    (z_len : PySem.W.nsIn K mainGlobals "len" = some none)
    (z_list : PySem.W.nsIn K mainGlobals "list" = some none)
    (z_max : PySem.W.nsIn K mainGlobals "max" = some none)
    (z_min : PySem.W.nsIn K mainGlobals "min" = some none)
    (z_range : PySem.W.nsIn K mainGlobals "range" = some none)
    (z_str : PySem.W.nsIn K mainGlobals "str" = some none)
    (z_tuple : PySem.W.nsIn K mainGlobals "tuple" = some none)
    (c_HEAD : PySem.W.nsIn K mainGlobals "HEAD" = some (some (.int 11 kt_HEAD)))
    (ca_KINDS : PySem.W.nsIn K mainGlobals "KINDS" = some (some (.ref ka_KINDS)))
    (cl_KINDS : K.lookup ka_KINDS = some ⟨.type "tuple", none, .seq #[.str "plain" kt_KINDS_0, .str "runs" kt_KINDS_1, .str "book" kt_KINDS_2, .str "base" kt_KINDS_3, .str "steps" kt_KINDS_4] kn_KINDS, ks_KINDS⟩)
    (c_MOST : PySem.W.nsIn K mainGlobals "MOST" = some (some (.int 4000000 kt_MOST)))
    (c_MOST_VALUES : PySem.W.nsIn K mainGlobals "MOST_VALUES" = some (some (.int 100 kt_MOST_VALUES)))
    (c_MOST_WORDS : PySem.W.nsIn K mainGlobals "MOST_WORDS" = some (some (.int 64 kt_MOST_WORDS)))
    (c_VALUE : PySem.W.nsIn K mainGlobals "VALUE" = some (some (.int 24 kt_VALUE)))
    : ∃ fd : FuncData, (∀ (s : Shared) (v : Value), BindsTo s fd ⟨[v], []⟩ [("_law_script", v)]) ∧ ∀ base : Heap, K.In base → base.Ns mainGlobals mg → FnOk P w K mg base (L2.CX P w) 7 fa fd ["_law_script"] (spEnd K den_law) := by
  have e : f_law = fa := Value.ref.inj (Option.some.inj ((PySem.W.mg_of X G a_law).symm.trans hfa))
  clear hfa
  subst e
  let A : Ad := { a_width := f_width, a_bits_of := f_bits_of, a_Tape_init := f_Tape_init, a_Tape_take := f_Tape_take, a_look_values := f_look_values, a_code := f_code, a_value_of := f_value_of, a_runs_of := f_runs_of, a_book_of := f_book_of, a_base_of := f_base_of, a_base_codes := f_base_codes, a_step_codes := f_step_codes, a_widest := f_widest, a_room := f_room, a_packed := f_packed, a_need_value := f_need_value, a_read_runs := f_read_runs, a_read_book := f_read_book, a_read_base := f_read_base, a_read_steps := f_read_steps, a_read_values := f_read_values, a_read_block := f_read_block, a_unpacked := f_unpacked, a_law_cell := f_law_cell, a_law_mix := f_law_mix, a_law_value := f_law_value, a_law_values := f_law_values, a_law_need := f_law_need, a_law_runs := f_law_runs, a_law_book := f_law_book, a_law_above := f_law_above, a_law_steps := f_law_steps, a_law_room := f_law_room, a_law_bits := f_law_bits, a_law_plain := f_law_plain, a_law_packed := f_law_packed, a_law := f_law, d_width := PySem.W.fnOf "width" "width" (defArgs s_width) (defBody s_width) (defScope s_width) .none kV_width dc_width pm_width an_width cd_width ct_width, d_bits_of := PySem.W.fnOf "bits_of" "bits_of" (defArgs s_bits_of) (defBody s_bits_of) (defScope s_bits_of) .none kV_bits_of dc_bits_of pm_bits_of an_bits_of cd_bits_of ct_bits_of, d_Tape_init := PySem.W.fnOf "__init__" "Tape.__init__" (defArgs s_Tape_init) (defBody s_Tape_init) (defScope s_Tape_init) .none kV_Tape_init dc_Tape_init pm_Tape_init an_Tape_init cd_Tape_init ct_Tape_init, d_Tape_take := PySem.W.fnOf "take" "Tape.take" (defArgs s_Tape_take) (defBody s_Tape_take) (defScope s_Tape_take) .none kV_Tape_take dc_Tape_take pm_Tape_take an_Tape_take cd_Tape_take ct_Tape_take, d_look_values := PySem.W.fnOf "look_values" "look_values" (defArgs s_look_values) (defBody s_look_values) (defScope s_look_values) .none kV_look_values dc_look_values pm_look_values an_look_values cd_look_values ct_look_values, d_code := PySem.W.fnOf "code" "code" (defArgs s_code) (defBody s_code) (defScope s_code) .none kV_code dc_code pm_code an_code cd_code ct_code, d_value_of := PySem.W.fnOf "value_of" "value_of" (defArgs s_value_of) (defBody s_value_of) (defScope s_value_of) .none kV_value_of dc_value_of pm_value_of an_value_of cd_value_of ct_value_of, d_runs_of := PySem.W.fnOf "runs_of" "runs_of" (defArgs s_runs_of) (defBody s_runs_of) (defScope s_runs_of) .none kV_runs_of dc_runs_of pm_runs_of an_runs_of cd_runs_of ct_runs_of, d_book_of := PySem.W.fnOf "book_of" "book_of" (defArgs s_book_of) (defBody s_book_of) (defScope s_book_of) .none kV_book_of dc_book_of pm_book_of an_book_of cd_book_of ct_book_of, d_base_of := PySem.W.fnOf "base_of" "base_of" (defArgs s_base_of) (defBody s_base_of) (defScope s_base_of) .none kV_base_of dc_base_of pm_base_of an_base_of cd_base_of ct_base_of, d_base_codes := PySem.W.fnOf "base_codes" "base_codes" (defArgs s_base_codes) (defBody s_base_codes) (defScope s_base_codes) .none kV_base_codes dc_base_codes pm_base_codes an_base_codes cd_base_codes ct_base_codes, d_step_codes := PySem.W.fnOf "step_codes" "step_codes" (defArgs s_step_codes) (defBody s_step_codes) (defScope s_step_codes) .none kV_step_codes dc_step_codes pm_step_codes an_step_codes cd_step_codes ct_step_codes, d_widest := PySem.W.fnOf "widest" "widest" (defArgs s_widest) (defBody s_widest) (defScope s_widest) .none kV_widest dc_widest pm_widest an_widest cd_widest ct_widest, d_room := PySem.W.fnOf "room" "room" (defArgs s_room) (defBody s_room) (defScope s_room) .none kV_room dc_room pm_room an_room cd_room ct_room, d_packed := PySem.W.fnOf "packed" "packed" (defArgs s_packed) (defBody s_packed) (defScope s_packed) .none kV_packed dc_packed pm_packed an_packed cd_packed ct_packed, d_need_value := PySem.W.fnOf "need_value" "need_value" (defArgs s_need_value) (defBody s_need_value) (defScope s_need_value) .none kV_need_value dc_need_value pm_need_value an_need_value cd_need_value ct_need_value, d_read_runs := PySem.W.fnOf "read_runs" "read_runs" (defArgs s_read_runs) (defBody s_read_runs) (defScope s_read_runs) .none kV_read_runs dc_read_runs pm_read_runs an_read_runs cd_read_runs ct_read_runs, d_read_book := PySem.W.fnOf "read_book" "read_book" (defArgs s_read_book) (defBody s_read_book) (defScope s_read_book) .none kV_read_book dc_read_book pm_read_book an_read_book cd_read_book ct_read_book, d_read_base := PySem.W.fnOf "read_base" "read_base" (defArgs s_read_base) (defBody s_read_base) (defScope s_read_base) .none kV_read_base dc_read_base pm_read_base an_read_base cd_read_base ct_read_base, d_read_steps := PySem.W.fnOf "read_steps" "read_steps" (defArgs s_read_steps) (defBody s_read_steps) (defScope s_read_steps) .none kV_read_steps dc_read_steps pm_read_steps an_read_steps cd_read_steps ct_read_steps, d_read_values := PySem.W.fnOf "read_values" "read_values" (defArgs s_read_values) (defBody s_read_values) (defScope s_read_values) .none kV_read_values dc_read_values pm_read_values an_read_values cd_read_values ct_read_values, d_read_block := PySem.W.fnOf "read_block" "read_block" (defArgs s_read_block) (defBody s_read_block) (defScope s_read_block) .none kV_read_block dc_read_block pm_read_block an_read_block cd_read_block ct_read_block, d_unpacked := PySem.W.fnOf "unpacked" "unpacked" (defArgs s_unpacked) (defBody s_unpacked) (defScope s_unpacked) .none kV_unpacked dc_unpacked pm_unpacked an_unpacked cd_unpacked ct_unpacked, d_law_cell := PySem.W.fnOf "_law_cell" "_law_cell" (defArgs s_law_cell) (defBody s_law_cell) (defScope s_law_cell) .none kV_law_cell dc_law_cell pm_law_cell an_law_cell cd_law_cell ct_law_cell, d_law_mix := PySem.W.fnOf "_law_mix" "_law_mix" (defArgs s_law_mix) (defBody s_law_mix) (defScope s_law_mix) .none kV_law_mix dc_law_mix pm_law_mix an_law_mix cd_law_mix ct_law_mix, d_law_value := PySem.W.fnOf "_law_value" "_law_value" (defArgs s_law_value) (defBody s_law_value) (defScope s_law_value) .none kV_law_value dc_law_value pm_law_value an_law_value cd_law_value ct_law_value, d_law_values := PySem.W.fnOf "_law_values" "_law_values" (defArgs s_law_values) (defBody s_law_values) (defScope s_law_values) .none kV_law_values dc_law_values pm_law_values an_law_values cd_law_values ct_law_values, d_law_need := PySem.W.fnOf "_law_need" "_law_need" (defArgs s_law_need) (defBody s_law_need) (defScope s_law_need) .none kV_law_need dc_law_need pm_law_need an_law_need cd_law_need ct_law_need, d_law_runs := PySem.W.fnOf "_law_runs" "_law_runs" (defArgs s_law_runs) (defBody s_law_runs) (defScope s_law_runs) .none kV_law_runs dc_law_runs pm_law_runs an_law_runs cd_law_runs ct_law_runs, d_law_book := PySem.W.fnOf "_law_book" "_law_book" (defArgs s_law_book) (defBody s_law_book) (defScope s_law_book) .none kV_law_book dc_law_book pm_law_book an_law_book cd_law_book ct_law_book, d_law_above := PySem.W.fnOf "_law_above" "_law_above" (defArgs s_law_above) (defBody s_law_above) (defScope s_law_above) .none kV_law_above dc_law_above pm_law_above an_law_above cd_law_above ct_law_above, d_law_steps := PySem.W.fnOf "_law_steps" "_law_steps" (defArgs s_law_steps) (defBody s_law_steps) (defScope s_law_steps) .none kV_law_steps dc_law_steps pm_law_steps an_law_steps cd_law_steps ct_law_steps, d_law_room := PySem.W.fnOf "_law_room" "_law_room" (defArgs s_law_room) (defBody s_law_room) (defScope s_law_room) .none kV_law_room dc_law_room pm_law_room an_law_room cd_law_room ct_law_room, d_law_bits := PySem.W.fnOf "_law_bits" "_law_bits" (defArgs s_law_bits) (defBody s_law_bits) (defScope s_law_bits) .none kV_law_bits dc_law_bits pm_law_bits an_law_bits cd_law_bits ct_law_bits, d_law_plain := PySem.W.fnOf "_law_plain" "_law_plain" (defArgs s_law_plain) (defBody s_law_plain) (defScope s_law_plain) .none kV_law_plain dc_law_plain pm_law_plain an_law_plain cd_law_plain ct_law_plain, d_law_packed := PySem.W.fnOf "_law_packed" "_law_packed" (defArgs s_law_packed) (defBody s_law_packed) (defScope s_law_packed) .none kV_law_packed dc_law_packed pm_law_packed an_law_packed cd_law_packed ct_law_packed, d_law := PySem.W.fnOf "law" "law" (defArgs s_law) (defBody s_law) (defScope s_law) .none kV_law dc_law pm_law an_law cd_law ct_law, x_RowsError := x_RowsError, x_BadValue := x_BadValue, x_NoPacking := x_NoPacking, x_BadBits := x_BadBits, y_Tape := y_Tape }
  have F_width := fun_mk (st := s_width) l_width c_width k_width
  have F_bits_of := fun_mk (st := s_bits_of) l_bits_of c_bits_of k_bits_of
  have F_Tape_init := fun_mk (st := s_Tape_init) l_Tape_init c_Tape_init k_Tape_init
  have F_Tape_take := fun_mk (st := s_Tape_take) l_Tape_take c_Tape_take k_Tape_take
  have F_look_values := fun_mk (st := s_look_values) l_look_values c_look_values k_look_values
  have F_code := fun_mk (st := s_code) l_code c_code k_code
  have F_value_of := fun_mk (st := s_value_of) l_value_of c_value_of k_value_of
  have F_runs_of := fun_mk (st := s_runs_of) l_runs_of c_runs_of k_runs_of
  have F_book_of := fun_mk (st := s_book_of) l_book_of c_book_of k_book_of
  have F_base_of := fun_mk (st := s_base_of) l_base_of c_base_of k_base_of
  have F_base_codes := fun_mk (st := s_base_codes) l_base_codes c_base_codes k_base_codes
  have F_step_codes := fun_mk (st := s_step_codes) l_step_codes c_step_codes k_step_codes
  have F_widest := fun_mk (st := s_widest) l_widest c_widest k_widest
  have F_room := fun_mk (st := s_room) l_room c_room k_room
  have F_packed := fun_mk (st := s_packed) l_packed c_packed k_packed
  have F_need_value := fun_mk (st := s_need_value) l_need_value c_need_value k_need_value
  have F_read_runs := fun_mk (st := s_read_runs) l_read_runs c_read_runs k_read_runs
  have F_read_book := fun_mk (st := s_read_book) l_read_book c_read_book k_read_book
  have F_read_base := fun_mk (st := s_read_base) l_read_base c_read_base k_read_base
  have F_read_steps := fun_mk (st := s_read_steps) l_read_steps c_read_steps k_read_steps
  have F_read_values := fun_mk (st := s_read_values) l_read_values c_read_values k_read_values
  have F_read_block := fun_mk (st := s_read_block) l_read_block c_read_block k_read_block
  have F_unpacked := fun_mk (st := s_unpacked) l_unpacked c_unpacked k_unpacked
  have F_law_cell := fun_mk (st := s_law_cell) l_law_cell c_law_cell k_law_cell
  have F_law_mix := fun_mk (st := s_law_mix) l_law_mix c_law_mix k_law_mix
  have F_law_value := fun_mk (st := s_law_value) l_law_value c_law_value k_law_value
  have F_law_values := fun_mk (st := s_law_values) l_law_values c_law_values k_law_values
  have F_law_need := fun_mk (st := s_law_need) l_law_need c_law_need k_law_need
  have F_law_runs := fun_mk (st := s_law_runs) l_law_runs c_law_runs k_law_runs
  have F_law_book := fun_mk (st := s_law_book) l_law_book c_law_book k_law_book
  have F_law_above := fun_mk (st := s_law_above) l_law_above c_law_above k_law_above
  have F_law_steps := fun_mk (st := s_law_steps) l_law_steps c_law_steps k_law_steps
  have F_law_room := fun_mk (st := s_law_room) l_law_room c_law_room k_law_room
  have F_law_bits := fun_mk (st := s_law_bits) l_law_bits c_law_bits k_law_bits
  have F_law_plain := fun_mk (st := s_law_plain) l_law_plain c_law_plain k_law_plain
  have F_law_packed := fun_mk (st := s_law_packed) l_law_packed c_law_packed k_law_packed
  have F_law := fun_mk (st := s_law) l_law c_law k_law
  have T : Txt K w mg A :=
    { m_width := PySem.W.mg_of X G a_width,
      k_width := k_width,
      f_width := F_width,
      b_width := F_width.binds (ps := ["number"]) fun _ _ _ _ _ _ us hl => match us, hl with | [_], _ => rfl,
      m_bits_of := PySem.W.mg_of X G a_bits_of,
      k_bits_of := k_bits_of,
      f_bits_of := F_bits_of,
      b_bits_of := F_bits_of.binds (ps := ["number", "many"]) fun _ _ _ _ _ _ us hl => match us, hl with | [_, _], _ => rfl,
      N_Tape := ⟨mk_Tape, a_Tape_init, is_Tape_init, kp_Tape⟩,
      k_Tape_init := k_Tape_init,
      f_Tape_init := F_Tape_init,
      b_Tape_init := F_Tape_init.binds (ps := ["self", "bits"]) fun _ _ _ _ _ _ us hl => match us, hl with | [_, _], _ => rfl,
      M_Tape_take := ⟨a_Tape_take, is_Tape_take, k_Tape_take⟩,
      k_Tape_take := k_Tape_take,
      f_Tape_take := F_Tape_take,
      b_Tape_take := F_Tape_take.binds (ps := ["self", "many"]) fun _ _ _ _ _ _ us hl => match us, hl with | [_, _], _ => rfl,
      m_look_values := PySem.W.mg_of X G a_look_values,
      k_look_values := k_look_values,
      f_look_values := F_look_values,
      b_look_values := F_look_values.binds (ps := ["values"]) fun _ _ _ _ _ _ us hl => match us, hl with | [_], _ => rfl,
      m_code := PySem.W.mg_of X G a_code,
      k_code := k_code,
      f_code := F_code,
      b_code := F_code.binds (ps := ["value"]) fun _ _ _ _ _ _ us hl => match us, hl with | [_], _ => rfl,
      m_value_of := PySem.W.mg_of X G a_value_of,
      k_value_of := k_value_of,
      f_value_of := F_value_of,
      b_value_of := F_value_of.binds (ps := ["number"]) fun _ _ _ _ _ _ us hl => match us, hl with | [_], _ => rfl,
      m_runs_of := PySem.W.mg_of X G a_runs_of,
      k_runs_of := k_runs_of,
      f_runs_of := F_runs_of,
      b_runs_of := F_runs_of.binds (ps := ["values"]) fun _ _ _ _ _ _ us hl => match us, hl with | [_], _ => rfl,
      m_book_of := PySem.W.mg_of X G a_book_of,
      k_book_of := k_book_of,
      f_book_of := F_book_of,
      b_book_of := F_book_of.binds (ps := ["values"]) fun _ _ _ _ _ _ us hl => match us, hl with | [_], _ => rfl,
      m_base_of := PySem.W.mg_of X G a_base_of,
      k_base_of := k_base_of,
      f_base_of := F_base_of,
      b_base_of := F_base_of.binds (ps := ["values"]) fun _ _ _ _ _ _ us hl => match us, hl with | [_], _ => rfl,
      m_base_codes := PySem.W.mg_of X G a_base_codes,
      k_base_codes := k_base_codes,
      f_base_codes := F_base_codes,
      b_base_codes := F_base_codes.binds (ps := ["values"]) fun _ _ _ _ _ _ us hl => match us, hl with | [_], _ => rfl,
      m_step_codes := PySem.W.mg_of X G a_step_codes,
      k_step_codes := k_step_codes,
      f_step_codes := F_step_codes,
      b_step_codes := F_step_codes.binds (ps := ["values"]) fun _ _ _ _ _ _ us hl => match us, hl with | [_], _ => rfl,
      m_widest := PySem.W.mg_of X G a_widest,
      k_widest := k_widest,
      f_widest := F_widest,
      b_widest := F_widest.binds (ps := ["codes"]) fun _ _ _ _ _ _ us hl => match us, hl with | [_], _ => rfl,
      m_room := PySem.W.mg_of X G a_room,
      k_room := k_room,
      f_room := F_room,
      b_room := F_room.binds (ps := ["kind", "values"]) fun _ _ _ _ _ _ us hl => match us, hl with | [_, _], _ => rfl,
      m_packed := PySem.W.mg_of X G a_packed,
      k_packed := k_packed,
      f_packed := F_packed,
      b_packed := F_packed.binds (ps := ["kind", "values"]) fun _ _ _ _ _ _ us hl => match us, hl with | [_, _], _ => rfl,
      m_need_value := PySem.W.mg_of X G a_need_value,
      k_need_value := k_need_value,
      f_need_value := F_need_value,
      b_need_value := F_need_value.binds (ps := ["tape"]) fun _ _ _ _ _ _ us hl => match us, hl with | [_], _ => rfl,
      m_read_runs := PySem.W.mg_of X G a_read_runs,
      k_read_runs := k_read_runs,
      f_read_runs := F_read_runs,
      b_read_runs := F_read_runs.binds (ps := ["tape", "many"]) fun _ _ _ _ _ _ us hl => match us, hl with | [_, _], _ => rfl,
      m_read_book := PySem.W.mg_of X G a_read_book,
      k_read_book := k_read_book,
      f_read_book := F_read_book,
      b_read_book := F_read_book.binds (ps := ["tape", "many"]) fun _ _ _ _ _ _ us hl => match us, hl with | [_, _], _ => rfl,
      m_read_base := PySem.W.mg_of X G a_read_base,
      k_read_base := k_read_base,
      f_read_base := F_read_base,
      b_read_base := F_read_base.binds (ps := ["tape", "many"]) fun _ _ _ _ _ _ us hl => match us, hl with | [_, _], _ => rfl,
      m_read_steps := PySem.W.mg_of X G a_read_steps,
      k_read_steps := k_read_steps,
      f_read_steps := F_read_steps,
      b_read_steps := F_read_steps.binds (ps := ["tape", "many"]) fun _ _ _ _ _ _ us hl => match us, hl with | [_, _], _ => rfl,
      m_read_values := PySem.W.mg_of X G a_read_values,
      k_read_values := k_read_values,
      f_read_values := F_read_values,
      b_read_values := F_read_values.binds (ps := ["tape", "kind", "many"]) fun _ _ _ _ _ _ us hl => match us, hl with | [_, _, _], _ => rfl,
      m_read_block := PySem.W.mg_of X G a_read_block,
      k_read_block := k_read_block,
      f_read_block := F_read_block,
      b_read_block := F_read_block.binds (ps := ["tape"]) fun _ _ _ _ _ _ us hl => match us, hl with | [_], _ => rfl,
      m_unpacked := PySem.W.mg_of X G a_unpacked,
      k_unpacked := k_unpacked,
      f_unpacked := F_unpacked,
      b_unpacked := F_unpacked.binds (ps := ["bits"]) fun _ _ _ _ _ _ us hl => match us, hl with | [_], _ => rfl,
      m_law_cell := PySem.W.mg_of X G a_law_cell,
      k_law_cell := k_law_cell,
      f_law_cell := F_law_cell,
      b_law_cell := F_law_cell.binds (ps := ["_law_script", "_law_k"]) fun _ _ _ _ _ _ us hl => match us, hl with | [_, _], _ => rfl,
      m_law_mix := PySem.W.mg_of X G a_law_mix,
      k_law_mix := k_law_mix,
      f_law_mix := F_law_mix,
      b_law_mix := F_law_mix.binds (ps := ["_law_script", "_law_k"]) fun _ _ _ _ _ _ us hl => match us, hl with | [_, _], _ => rfl,
      m_law_value := PySem.W.mg_of X G a_law_value,
      k_law_value := k_law_value,
      f_law_value := F_law_value,
      b_law_value := F_law_value.binds (ps := ["_law_script", "_law_k"]) fun _ _ _ _ _ _ us hl => match us, hl with | [_, _], _ => rfl,
      m_law_values := PySem.W.mg_of X G a_law_values,
      k_law_values := k_law_values,
      f_law_values := F_law_values,
      b_law_values := F_law_values.binds (ps := ["_law_script", "_law_k", "_law_most"]) fun _ _ _ _ _ _ us hl => match us, hl with | [_, _, _], _ => rfl,
      m_law_need := PySem.W.mg_of X G a_law_need,
      k_law_need := k_law_need,
      f_law_need := F_law_need,
      b_law_need := F_law_need.binds (ps := ["_law_number"]) fun _ _ _ _ _ _ us hl => match us, hl with | [_], _ => rfl,
      m_law_runs := PySem.W.mg_of X G a_law_runs,
      k_law_runs := k_law_runs,
      f_law_runs := F_law_runs,
      b_law_runs := F_law_runs.binds (ps := ["_law_values_here"]) fun _ _ _ _ _ _ us hl => match us, hl with | [_], _ => rfl,
      m_law_book := PySem.W.mg_of X G a_law_book,
      k_law_book := k_law_book,
      f_law_book := F_law_book,
      b_law_book := F_law_book.binds (ps := ["_law_values_here"]) fun _ _ _ _ _ _ us hl => match us, hl with | [_], _ => rfl,
      m_law_above := PySem.W.mg_of X G a_law_above,
      k_law_above := k_law_above,
      f_law_above := F_law_above,
      b_law_above := F_law_above.binds (ps := ["_law_values_here"]) fun _ _ _ _ _ _ us hl => match us, hl with | [_], _ => rfl,
      m_law_steps := PySem.W.mg_of X G a_law_steps,
      k_law_steps := k_law_steps,
      f_law_steps := F_law_steps,
      b_law_steps := F_law_steps.binds (ps := ["_law_values_here"]) fun _ _ _ _ _ _ us hl => match us, hl with | [_], _ => rfl,
      m_law_room := PySem.W.mg_of X G a_law_room,
      k_law_room := k_law_room,
      f_law_room := F_law_room,
      b_law_room := F_law_room.binds (ps := ["_law_kind", "_law_values_here"]) fun _ _ _ _ _ _ us hl => match us, hl with | [_, _], _ => rfl,
      m_law_bits := PySem.W.mg_of X G a_law_bits,
      k_law_bits := k_law_bits,
      f_law_bits := F_law_bits,
      b_law_bits := F_law_bits.binds (ps := ["_law_number", "_law_many"]) fun _ _ _ _ _ _ us hl => match us, hl with | [_, _], _ => rfl,
      m_law_plain := PySem.W.mg_of X G a_law_plain,
      k_law_plain := k_law_plain,
      f_law_plain := F_law_plain,
      b_law_plain := F_law_plain.binds (ps := ["_law_value_here"]) fun _ _ _ _ _ _ us hl => match us, hl with | [_], _ => rfl,
      m_law_packed := PySem.W.mg_of X G a_law_packed,
      k_law_packed := k_law_packed,
      f_law_packed := F_law_packed,
      b_law_packed := F_law_packed.binds (ps := ["_law_kind", "_law_values_here"]) fun _ _ _ _ _ _ us hl => match us, hl with | [_, _], _ => rfl,
      m_law := PySem.W.mg_of X G a_law,
      k_law := k_law,
      f_law := F_law,
      b_law := F_law.binds (ps := ["_law_script"]) fun _ _ _ _ _ _ us hl => match us, hl with | [_], _ => rfl,
      C_Tape := ⟨⟨pg_Tape, hc_Tape, po_Tape, sa_Tape⟩, (show (oNs.getD 4 []).Nodup by decide +kernel), (show (oNs.getD 4 []).length < 1000 by decide +kernel), (List.forall_mem_cons.mpr ⟨na_Tape_signs, (List.forall_mem_cons.mpr ⟨na_Tape_here, List.forall_mem_nil _⟩)⟩)⟩,
      n_Tape := PySem.W.mg_of X G ay_Tape,
      z_all := PySem.W.mg_none_of X G z_all,
      z_any := PySem.W.mg_none_of X G z_any,
      z_int := PySem.W.mg_none_of X G z_int,
      z_isinstance := PySem.W.mg_none_of X G z_isinstance,
      z_len := PySem.W.mg_none_of X G z_len,
      z_list := PySem.W.mg_none_of X G z_list,
      z_max := PySem.W.mg_none_of X G z_max,
      z_min := PySem.W.mg_none_of X G z_min,
      z_range := PySem.W.mg_none_of X G z_range,
      z_str := PySem.W.mg_none_of X G z_str,
      z_tuple := PySem.W.mg_none_of X G z_tuple,
      c_HEAD := ⟨_, PySem.W.mg_of X G c_HEAD⟩,
      c_KINDS := ⟨ka_KINDS, _, _, _, PySem.W.mg_of X G ca_KINDS, cl_KINDS, rfl, rfl, rfl, (by show (5 : Nat) ≤ sizeLine; decide), .cons ⟨_, rfl⟩ (.cons ⟨_, rfl⟩ (.cons ⟨_, rfl⟩ (.cons ⟨_, rfl⟩ (.cons ⟨_, rfl⟩ (.nil)))))⟩,
      c_MOST := ⟨_, PySem.W.mg_of X G c_MOST⟩,
      c_MOST_VALUES := ⟨_, PySem.W.mg_of X G c_MOST_VALUES⟩,
      c_MOST_WORDS := ⟨_, PySem.W.mg_of X G c_MOST_WORDS⟩,
      c_VALUE := ⟨_, PySem.W.mg_of X G c_VALUE⟩,
      e_BadBits := ⟨q_BadBits, PySem.W.mg_of X G ax_BadBits, kc_BadBits, sb_BadBits, ty_BadBits⟩,
      e_BadValue := ⟨q_BadValue, PySem.W.mg_of X G ax_BadValue, kc_BadValue, sb_BadValue, ty_BadValue⟩,
      e_NoPacking := ⟨q_NoPacking, PySem.W.mg_of X G ax_NoPacking, kc_NoPacking, sb_NoPacking, ty_NoPacking⟩ }
  refine ⟨A.d_law, fun s v => .of_eq rfl, fun base _ _ => ?_⟩
  have G_width : FnOk P w K mg base (L2.CX P w) 1 A.a_width A.d_width ["number"] (spV K (cfg A) 1 .flat den_width) := ok_width (P := P) (w := w) (base := base) (A := A) T
  have G_bits_of : FnOk P w K mg base (L2.CX P w) 1 A.a_bits_of A.d_bits_of ["number", "many"] (spV K (cfg A) 2 .flat den_bits_of) := ok_bits_of (P := P) (w := w) (base := base) (A := A) T
  have G_Tape_init : FnOk P w K mg base (L2.CX P w) 1 A.a_Tape_init A.d_Tape_init ["self", "bits"] (spM K (cfg A) 1 den_Tape_init) := ok_Tape_init (P := P) (w := w) (base := base) (A := A) T
  have G_Tape_take : FnOk P w K mg base (L2.CX P w) 1 A.a_Tape_take A.d_Tape_take ["self", "many"] (spM K (cfg A) 1 den_Tape_take) := ok_Tape_take (P := P) (w := w) (base := base) (A := A) T
  have G_look_values : FnOk P w K mg base (L2.CX P w) 1 A.a_look_values A.d_look_values ["values"] (spV K (cfg A) 1 .flat den_look_values) := ok_look_values (P := P) (w := w) (base := base) (A := A) T
  have G_code : FnOk P w K mg base (L2.CX P w) 1 A.a_code A.d_code ["value"] (spV K (cfg A) 1 .flat den_code) := ok_code (P := P) (w := w) (base := base) (A := A) T
  have G_value_of : FnOk P w K mg base (L2.CX P w) 1 A.a_value_of A.d_value_of ["number"] (spV K (cfg A) 1 .flat den_value_of) := ok_value_of (P := P) (w := w) (base := base) (A := A) T
  have G_runs_of : FnOk P w K mg base (L2.CX P w) 1 A.a_runs_of A.d_runs_of ["values"] (spV K (cfg A) 1 .own den_runs_of) := ok_runs_of (P := P) (w := w) (base := base) (A := A) T
  have G_book_of : FnOk P w K mg base (L2.CX P w) 1 A.a_book_of A.d_book_of ["values"] (spV K (cfg A) 1 .ownf den_book_of) := ok_book_of (P := P) (w := w) (base := base) (A := A) T
  have G_base_of : FnOk P w K mg base (L2.CX P w) 1 A.a_base_of A.d_base_of ["values"] (spV K (cfg A) 1 .flat den_base_of) := ok_base_of (P := P) (w := w) (base := base) (A := A) T
  have G_base_codes : FnOk P w K mg base (L2.CX P w) 2 A.a_base_codes A.d_base_codes ["values"] (spV K (cfg A) 1 .ownf den_base_codes) := ok_base_codes (P := P) (w := w) (base := base) (A := A) T G_base_of
  have G_step_codes : FnOk P w K mg base (L2.CX P w) 1 A.a_step_codes A.d_step_codes ["values"] (spV K (cfg A) 1 .fz den_step_codes) := ok_step_codes (P := P) (w := w) (base := base) (A := A) T
  have G_widest : FnOk P w K mg base (L2.CX P w) 2 A.a_widest A.d_widest ["codes"] (spV K (cfg A) 1 .flat den_widest) := ok_widest (P := P) (w := w) (base := base) (A := A) T G_width
  have G_room : FnOk P w K mg base (L2.CX P w) 3 A.a_room A.d_room ["kind", "values"] (spV K (cfg A) 2 .flat den_room) := ok_room (P := P) (w := w) (base := base) (A := A) T G_look_values G_runs_of G_book_of G_width G_widest G_base_codes G_step_codes
  have G_packed : FnOk P w K mg base (L2.CX P w) 4 A.a_packed A.d_packed ["kind", "values"] (spV K (cfg A) 2 .flat den_packed) := ok_packed (P := P) (w := w) (base := base) (A := A) T G_room G_bits_of G_code G_runs_of G_book_of G_width G_base_codes G_step_codes G_base_of G_widest
  have G_need_value : FnOk P w K mg base (L2.CX P w) 2 A.a_need_value A.d_need_value ["tape"] (spM K (cfg A) 0 den_need_value) := ok_need_value (P := P) (w := w) (base := base) (A := A) T G_value_of G_Tape_take
  have G_read_runs : FnOk P w K mg base (L2.CX P w) 3 A.a_read_runs A.d_read_runs ["tape", "many"] (spM K (cfg A) 1 den_read_runs) := ok_read_runs (P := P) (w := w) (base := base) (A := A) T G_Tape_take G_need_value
  have G_read_book : FnOk P w K mg base (L2.CX P w) 3 A.a_read_book A.d_read_book ["tape", "many"] (spM K (cfg A) 1 den_read_book) := ok_read_book (P := P) (w := w) (base := base) (A := A) T G_Tape_take G_need_value G_width
  have G_read_base : FnOk P w K mg base (L2.CX P w) 3 A.a_read_base A.d_read_base ["tape", "many"] (spM K (cfg A) 1 den_read_base) := ok_read_base (P := P) (w := w) (base := base) (A := A) T G_need_value G_Tape_take
  have G_read_steps : FnOk P w K mg base (L2.CX P w) 3 A.a_read_steps A.d_read_steps ["tape", "many"] (spM K (cfg A) 1 den_read_steps) := ok_read_steps (P := P) (w := w) (base := base) (A := A) T G_need_value G_Tape_take
  have G_read_values : FnOk P w K mg base (L2.CX P w) 4 A.a_read_values A.d_read_values ["tape", "kind", "many"] (spM K (cfg A) 2 den_read_values) := ok_read_values (P := P) (w := w) (base := base) (A := A) T G_need_value G_read_runs G_read_book G_read_base G_read_steps
  have G_read_block : FnOk P w K mg base (L2.CX P w) 5 A.a_read_block A.d_read_block ["tape"] (spM K (cfg A) 0 den_read_block) := ok_read_block (P := P) (w := w) (base := base) (A := A) T G_Tape_take G_read_values G_packed
  have G_unpacked : FnOk P w K mg base (L2.CX P w) 6 A.a_unpacked A.d_unpacked ["bits"] (spV K (cfg A) 1 .fz den_unpacked) := ok_unpacked (P := P) (w := w) (base := base) (A := A) T G_Tape_init G_read_block
  have G_law_cell : FnOk P w K mg base (L2.CX P w) 1 A.a_law_cell A.d_law_cell ["_law_script", "_law_k"] (spV K (cfg A) 2 .flat den_law_cell) := ok_law_cell (P := P) (w := w) (base := base) (A := A) T
  have G_law_mix : FnOk P w K mg base (L2.CX P w) 2 A.a_law_mix A.d_law_mix ["_law_script", "_law_k"] (spV K (cfg A) 2 .flat den_law_mix) := ok_law_mix (P := P) (w := w) (base := base) (A := A) T G_law_cell
  have G_law_value : FnOk P w K mg base (L2.CX P w) 3 A.a_law_value A.d_law_value ["_law_script", "_law_k"] (spV K (cfg A) 2 .flat den_law_value) := ok_law_value (P := P) (w := w) (base := base) (A := A) T G_law_mix
  have G_law_values : FnOk P w K mg base (L2.CX P w) 4 A.a_law_values A.d_law_values ["_law_script", "_law_k", "_law_most"] (spV K (cfg A) 3 .ownf den_law_values) := ok_law_values (P := P) (w := w) (base := base) (A := A) T G_law_mix G_law_value
  have G_law_need : FnOk P w K mg base (L2.CX P w) 1 A.a_law_need A.d_law_need ["_law_number"] (spV K (cfg A) 1 .flat den_law_need) := ok_law_need (P := P) (w := w) (base := base) (A := A) T
  have G_law_runs : FnOk P w K mg base (L2.CX P w) 1 A.a_law_runs A.d_law_runs ["_law_values_here"] (spV K (cfg A) 1 .flat den_law_runs) := ok_law_runs (P := P) (w := w) (base := base) (A := A) T
  have G_law_book : FnOk P w K mg base (L2.CX P w) 1 A.a_law_book A.d_law_book ["_law_values_here"] (spV K (cfg A) 1 .ownf den_law_book) := ok_law_book (P := P) (w := w) (base := base) (A := A) T
  have G_law_above : FnOk P w K mg base (L2.CX P w) 1 A.a_law_above A.d_law_above ["_law_values_here"] (spV K (cfg A) 1 .ownf den_law_above) := ok_law_above (P := P) (w := w) (base := base) (A := A) T
  have G_law_steps : FnOk P w K mg base (L2.CX P w) 1 A.a_law_steps A.d_law_steps ["_law_values_here"] (spV K (cfg A) 1 .ownf den_law_steps) := ok_law_steps (P := P) (w := w) (base := base) (A := A) T
  have G_law_room : FnOk P w K mg base (L2.CX P w) 2 A.a_law_room A.d_law_room ["_law_kind", "_law_values_here"] (spV K (cfg A) 2 .flat den_law_room) := ok_law_room (P := P) (w := w) (base := base) (A := A) T G_law_runs G_law_book G_law_need G_law_above G_law_steps
  have G_law_bits : FnOk P w K mg base (L2.CX P w) 1 A.a_law_bits A.d_law_bits ["_law_number", "_law_many"] (spV K (cfg A) 2 .flat den_law_bits) := ok_law_bits (P := P) (w := w) (base := base) (A := A) T
  have G_law_plain : FnOk P w K mg base (L2.CX P w) 2 A.a_law_plain A.d_law_plain ["_law_value_here"] (spV K (cfg A) 1 .flat den_law_plain) := ok_law_plain (P := P) (w := w) (base := base) (A := A) T G_law_bits
  have G_law_packed : FnOk P w K mg base (L2.CX P w) 3 A.a_law_packed A.d_law_packed ["_law_kind", "_law_values_here"] (spV K (cfg A) 2 .flat den_law_packed) := ok_law_packed (P := P) (w := w) (base := base) (A := A) T G_law_bits G_law_plain G_law_book G_law_need G_law_above G_law_steps
  have G_law : FnOk P w K mg base (L2.CX P w) 7 A.a_law A.d_law ["_law_script"] (spV K (cfg A) 1 .flat den_law) := ok_law (P := P) (w := w) (base := base) (A := A) T G_law_mix G_law_values G_law_room G_packed G_room G_law_packed G_unpacked
  exact G_law.imp fun vs H Q E h => end_imp h
theorem walk {l : PySem.W.OpenLaw} {q : Program} {loose : List Str} {XP : (Str → Option Value) → Heap → Prop} {YP : World → Heap → Prop} {d : DefRec} {K : Params → PySem.W.Frag} (hn : l.most = some 63) (hdf : d.params.defaults = [])
    (hY : ∀ (w : World) (h : Heap), YP w h → (K w.params).In h)
    (F : ∀ (w : World) (mg : Str → Option Value) (fa : Addr) (h : Heap), (K w.params).In h → h.Ns mainGlobals mg → mg d.name = some (.ref fa) →
      ∃ fd : FuncData, (∀ (s : Shared) (u : Value), BindsTo s fd ⟨[u], []⟩ [("_law_script", u)]) ∧ ∀ base : Heap, (K w.params).In base → base.Ns mainGlobals mg → FnOk l.prog w (K w.params) mg base (L2.CX l.prog w) 7 fa fd ["_law_script"] (spEnd (K w.params) den_law)) :
    PySem.W.WalkO q loose XP YP l.row.toRowW d [] (fun f vs => PySem.call f vs) :=
  L2.walk_of (n := 63) (k := 7) (x := "_law_script") (CX := fun w => L2.CX l.prog w) (sp := fun w => spEnd (K w.params) den_law) hn (by decide) hdf ⟨rfl, by decide, by decide⟩ hY F (fun _ _ a ns hl _ hS => ⟨a, ns, rfl, hS, main ns hl, fun _ => rfl⟩) fun _ _ _ _ _ h => noCX h
end VL
open PySem PySem.W PyProof.Rows in
set_option maxRecDepth 100000 in
set_option maxHeartbeats 0 in
theorem PySem.Challenge.cw_tightrows_k02_whole_packed_holds : PySem.Challenge.rw_tightrows_k02_whole_packed.Holds := by
  w_on; o_law; k_head; (case hw => w_witness2)
  k_fill
  refine VL.walk (l := PySem.Challenge.rw_tightrows_k02_whole_packed) rfl rfl (fun w h Y => PySem.W.kIn_of Y) ?F
  case F =>
    intro w mg fa h KX G hmg
    refine' VL.all_mk KX G hmg ?a_width ?l_width ?c_width ?k_width ?a_bits_of ?l_bits_of ?c_bits_of ?k_bits_of ?ay_Tape ?a_Tape_init ?is_Tape_init ?l_Tape_init ?c_Tape_init ?k_Tape_init ?a_Tape_take ?is_Tape_take ?l_Tape_take ?c_Tape_take ?k_Tape_take ?a_look_values ?l_look_values ?c_look_values ?k_look_values ?a_code ?l_code ?c_code ?k_code ?a_value_of ?l_value_of ?c_value_of ?k_value_of ?a_runs_of ?l_runs_of ?c_runs_of ?k_runs_of ?a_book_of ?l_book_of ?c_book_of ?k_book_of ?a_base_of ?l_base_of ?c_base_of ?k_base_of ?a_base_codes ?l_base_codes ?c_base_codes ?k_base_codes ?a_step_codes ?l_step_codes ?c_step_codes ?k_step_codes ?a_widest ?l_widest ?c_widest ?k_widest ?a_room ?l_room ?c_room ?k_room ?a_packed ?l_packed ?c_packed ?k_packed ?a_need_value ?l_need_value ?c_need_value ?k_need_value ?a_read_runs ?l_read_runs ?c_read_runs ?k_read_runs ?a_read_book ?l_read_book ?c_read_book ?k_read_book ?a_read_base ?l_read_base ?c_read_base ?k_read_base ?a_read_steps ?l_read_steps ?c_read_steps ?k_read_steps ?a_read_values ?l_read_values ?c_read_values ?k_read_values ?a_read_block ?l_read_block ?c_read_block ?k_read_block ?a_unpacked ?l_unpacked ?c_unpacked ?k_unpacked ?a_law_cell ?l_law_cell ?c_law_cell ?k_law_cell ?a_law_mix ?l_law_mix ?c_law_mix ?k_law_mix ?a_law_value ?l_law_value ?c_law_value ?k_law_value ?a_law_values ?l_law_values ?c_law_values ?k_law_values ?a_law_need ?l_law_need ?c_law_need ?k_law_need ?a_law_runs ?l_law_runs ?c_law_runs ?k_law_runs ?a_law_book ?l_law_book ?c_law_book ?k_law_book ?a_law_above ?l_law_above ?c_law_above ?k_law_above ?a_law_steps ?l_law_steps ?c_law_steps ?k_law_steps ?a_law_room ?l_law_room ?c_law_room ?k_law_room ?a_law_bits ?l_law_bits ?c_law_bits ?k_law_bits ?a_law_plain ?l_law_plain ?c_law_plain ?k_law_plain ?a_law_packed ?l_law_packed ?c_law_packed ?k_law_packed ?a_law ?l_law ?c_law ?k_law ?ax_RowsError ?ax_BadValue ?ax_NoPacking ?ax_BadBits ?q_BadBits ?kc_BadBits ?q_BadValue ?kc_BadValue ?q_NoPacking ?kc_NoPacking ?sb_BadBits ?ty_BadBits ?sb_BadValue ?ty_BadValue ?sb_NoPacking ?ty_NoPacking ?pg_Tape ?hc_Tape ?po_Tape ?sa_Tape ?mk_Tape ?kp_Tape ?na_Tape_signs ?na_Tape_here ?z_all ?z_any ?z_int ?z_isinstance ?z_len ?z_list ?z_max ?z_min ?z_range ?z_str ?z_tuple ?c_HEAD ?ca_KINDS ?cl_KINDS ?c_MOST ?c_MOST_VALUES ?c_MOST_WORDS ?c_VALUE
    (case a_width => k_is)
    (case l_width => k_is)
    (case c_width => k_is)
    (case k_width => k_is)
    (case a_bits_of => k_is)
    (case l_bits_of => k_is)
    (case c_bits_of => k_is)
    (case k_bits_of => k_is)
    (case ay_Tape => k_is)
    (case a_Tape_init => k_is)
    (case is_Tape_init => k_is)
    (case l_Tape_init => k_is)
    (case c_Tape_init => k_is)
    (case k_Tape_init => k_is)
    (case a_Tape_take => k_is)
    (case is_Tape_take => k_is)
    (case l_Tape_take => k_is)
    (case c_Tape_take => k_is)
    (case k_Tape_take => k_is)
    (case a_look_values => k_is)
    (case l_look_values => k_is)
    (case c_look_values => k_is)
    (case k_look_values => k_is)
    (case a_code => k_is)
    (case l_code => k_is)
    (case c_code => k_is)
    (case k_code => k_is)
    (case a_value_of => k_is)
    (case l_value_of => k_is)
    (case c_value_of => k_is)
    (case k_value_of => k_is)
    (case a_runs_of => k_is)
    (case l_runs_of => k_is)
    (case c_runs_of => k_is)
    (case k_runs_of => k_is)
    (case a_book_of => k_is)
    (case l_book_of => k_is)
    (case c_book_of => k_is)
    (case k_book_of => k_is)
    (case a_base_of => k_is)
    (case l_base_of => k_is)
    (case c_base_of => k_is)
    (case k_base_of => k_is)
    (case a_base_codes => k_is)
    (case l_base_codes => k_is)
    (case c_base_codes => k_is)
    (case k_base_codes => k_is)
    (case a_step_codes => k_is)
    (case l_step_codes => k_is)
    (case c_step_codes => k_is)
    (case k_step_codes => k_is)
    (case a_widest => k_is)
    (case l_widest => k_is)
    (case c_widest => k_is)
    (case k_widest => k_is)
    (case a_room => k_is)
    (case l_room => k_is)
    (case c_room => k_is)
    (case k_room => k_is)
    (case a_packed => k_is)
    (case l_packed => k_is)
    (case c_packed => k_is)
    (case k_packed => k_is)
    (case a_need_value => k_is)
    (case l_need_value => k_is)
    (case c_need_value => k_is)
    (case k_need_value => k_is)
    (case a_read_runs => k_is)
    (case l_read_runs => k_is)
    (case c_read_runs => k_is)
    (case k_read_runs => k_is)
    (case a_read_book => k_is)
    (case l_read_book => k_is)
    (case c_read_book => k_is)
    (case k_read_book => k_is)
    (case a_read_base => k_is)
    (case l_read_base => k_is)
    (case c_read_base => k_is)
    (case k_read_base => k_is)
    (case a_read_steps => k_is)
    (case l_read_steps => k_is)
    (case c_read_steps => k_is)
    (case k_read_steps => k_is)
    (case a_read_values => k_is)
    (case l_read_values => k_is)
    (case c_read_values => k_is)
    (case k_read_values => k_is)
    (case a_read_block => k_is)
    (case l_read_block => k_is)
    (case c_read_block => k_is)
    (case k_read_block => k_is)
    (case a_unpacked => k_is)
    (case l_unpacked => k_is)
    (case c_unpacked => k_is)
    (case k_unpacked => k_is)
    (case a_law_cell => k_is)
    (case l_law_cell => k_is)
    (case c_law_cell => k_is)
    (case k_law_cell => k_is)
    (case a_law_mix => k_is)
    (case l_law_mix => k_is)
    (case c_law_mix => k_is)
    (case k_law_mix => k_is)
    (case a_law_value => k_is)
    (case l_law_value => k_is)
    (case c_law_value => k_is)
    (case k_law_value => k_is)
    (case a_law_values => k_is)
    (case l_law_values => k_is)
    (case c_law_values => k_is)
    (case k_law_values => k_is)
    (case a_law_need => k_is)
    (case l_law_need => k_is)
    (case c_law_need => k_is)
    (case k_law_need => k_is)
    (case a_law_runs => k_is)
    (case l_law_runs => k_is)
    (case c_law_runs => k_is)
    (case k_law_runs => k_is)
    (case a_law_book => k_is)
    (case l_law_book => k_is)
    (case c_law_book => k_is)
    (case k_law_book => k_is)
    (case a_law_above => k_is)
    (case l_law_above => k_is)
    (case c_law_above => k_is)
    (case k_law_above => k_is)
    (case a_law_steps => k_is)
    (case l_law_steps => k_is)
    (case c_law_steps => k_is)
    (case k_law_steps => k_is)
    (case a_law_room => k_is)
    (case l_law_room => k_is)
    (case c_law_room => k_is)
    (case k_law_room => k_is)
    (case a_law_bits => k_is)
    (case l_law_bits => k_is)
    (case c_law_bits => k_is)
    (case k_law_bits => k_is)
    (case a_law_plain => k_is)
    (case l_law_plain => k_is)
    (case c_law_plain => k_is)
    (case k_law_plain => k_is)
    (case a_law_packed => k_is)
    (case l_law_packed => k_is)
    (case c_law_packed => k_is)
    (case k_law_packed => k_is)
    (case a_law => k_is)
    (case l_law => k_is)
    (case c_law => k_is)
    (case k_law => k_is)
    (case ax_RowsError => k_is)
    (case ax_BadValue => k_is)
    (case ax_NoPacking => k_is)
    (case ax_BadBits => k_is)
    (case q_BadBits => k_exc)
    (case kc_BadBits => k_is)
    (case q_BadValue => k_exc)
    (case kc_BadValue => k_is)
    (case q_NoPacking => k_exc)
    (case kc_NoPacking => k_is)
    (case sb_BadBits => k_is)
    (case ty_BadBits => k_is)
    (case sb_BadValue => k_is)
    (case ty_BadValue => k_is)
    (case sb_NoPacking => k_is)
    (case ty_NoPacking => k_is)
    (case pg_Tape => k_is)
    (case hc_Tape => k_is)
    (case po_Tape => k_is)
    (case sa_Tape => k_is)
    (case mk_Tape => k_is)
    (case kp_Tape => k_is)
    (case na_Tape_signs => k_is)
    (case na_Tape_here => k_is)
    (case z_all => k_is)
    (case z_any => k_is)
    (case z_int => k_is)
    (case z_isinstance => k_is)
    (case z_len => k_is)
    (case z_list => k_is)
    (case z_max => k_is)
    (case z_min => k_is)
    (case z_range => k_is)
    (case z_str => k_is)
    (case z_tuple => k_is)
    (case c_HEAD => k_is)
    (case ca_KINDS => k_is)
    (case cl_KINDS => k_is)
    (case c_MOST => k_is)
    (case c_MOST_VALUES => k_is)
    (case c_MOST_WORDS => k_is)
    (case c_VALUE => k_is)

