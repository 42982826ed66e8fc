import PyProof.Rows.All
import HandS.ForMost
import HandS.Exc
import HandS.WordsExc
import HandS.ExcOwn
import HandS.CallSlots
import KE.GoesNew
import KE.GoesEnum
import HandS.Iter
import HandS.Zip
import HandS.Deep
import HandS.TupAny
import HandS.Conv
import HandS.Style
import HandS.SortInts
import HandS.DictComp
import KE.KDictDisplayH
import HandS.HotCalls
import HandS.ExcIs
import HandS.Comp
import HandS.TupSets
import HandS.SetFor
import HandS.Star
import PyProof.ReprRoads
import HandS.Ends
import PySem.Challenge.RW_namelessnets_k68_whole_lies_of_all_kinds
import OpenK.AllK
set_option Elab.async false
set_option linter.all false
set_option maxRecDepth 100000
set_option maxHeartbeats 4000000
/-! DL1: data as a whole over the hand layer: what stands for which data, the state as data, what a reading does. -/
namespace DL
open PySem PySem.Spec L2
open PyProof.Rows hiding St

abbrev D := PyData

def keyD : Key → D
  | .inl i => .int i
  | .inr x => .str x
def keyTD (k : List Key) : D := .tuple (k.map keyD)
mutual
/-- the value v stands for the data d in the shared part B of the heap -/
inductive Rp (K : PySem.W.Frag) (B : Hp) : V → D → Prop
  | non : Rp K B .non .none
  | bl (b : Bool) : Rp K B (.bl b) (.bool b)
  | int (i : Int) : Rp K B (.int i) (.int i)
  | str (x : Str) : Rp K B (.str x) (.str x)
  | tup {a : Addr} {vs : List V} {ds : List D} : B a = some (.tup vs) → Rps K B vs ds → Rp K B (.ref a) (.tuple ds)
  | lst {a : Addr} {vs : List V} {ds : List D} : B a = some (.lst vs) → Rps K B vs ds → Rp K B (.ref a) (.list ds)
  | dT {a : Addr} {ks : List (List Key × V)} {ds : List (List Key × D)} {kvs : List (D × D)} : B a = some (.dT ks) → RpsT K B ks ds → kvs = ds.map (fun p => (keyTD p.1, p.2)) → Rp K B (.ref a) (.dict kvs)
  | dK {a : Addr} {ks : List (Key × V)} {ds : List (Key × D)} {kvs : List (D × D)} : B a = some (.dK ks) → RpsK K B ks ds → kvs = ds.map (fun p => (keyD p.1, p.2)) → Rp K B (.ref a) (.dict kvs)
inductive Rps (K : PySem.W.Frag) (B : Hp) : List V → List D → Prop
  | nil : Rps K B [] []
  | cons {v : V} {vs : List V} {d : D} {ds : List D} : Rp K B v d → Rps K B vs ds → Rps K B (v :: vs) (d :: ds)
inductive RpsT (K : PySem.W.Frag) (B : Hp) : List (List Key × V) → List (List Key × D) → Prop
  | nil : RpsT K B [] []
  | cons {k : List Key} {v : V} {vs : List (List Key × V)} {d : D} {ds : List (List Key × D)} : Rp K B v d → RpsT K B vs ds → RpsT K B ((k, v) :: vs) ((k, d) :: ds)
inductive RpsK (K : PySem.W.Frag) (B : Hp) : List (Key × V) → List (Key × D) → Prop
  | nil : RpsK K B [] []
  | cons {k : Key} {v : V} {vs : List (Key × V)} {d : D} {ds : List (Key × D)} : Rp K B v d → RpsK K B vs ds → RpsK K B ((k, v) :: vs) ((k, d) :: ds)
end

/-- all that stands in B stands so in B' -/
def Le (B B' : Hp) : Prop := ∀ a o, B a = some o → B' a = some o
theorem Le.refl (B : Hp) : Le B B := fun _ _ h => h
theorem Le.trans {A B C : Hp} (h : Le A B) (g : Le B C) : Le A C := fun a o q => g a o (h a o q)
theorem Le.sqL {K : PySem.W.Frag} {B B' : Hp} {a : Addr} {xs : List V} (e : Le B B') (h : SqL K B a xs) : SqL K B' a xs := Same.seq e h
theorem Le.sqT {K : PySem.W.Frag} {B B' : Hp} {a : Addr} {xs : List V} (e : Le B B') (h : SqT K B a xs) : SqT K B' a xs := by
  rcases h with (h | ⟨o, h⟩) | h
  · exact .inl (.inl (e _ _ h))
  · exact .inl (.inr ⟨o, e _ _ h⟩)
  · exact .inr h
mutual
theorem Rp.le {K : PySem.W.Frag} {B B' : Hp} (e : Le B B') : ∀ {v : V} {d : D}, Rp K B v d → Rp K B' v d
  | _, _, .non => .non
  | _, _, .bl b => .bl b
  | _, _, .int i => .int i
  | _, _, .str x => .str x
  | _, _, .tup h r => .tup (e _ _ h) (Rps.le e r)
  | _, _, .lst h r => .lst (e _ _ h) (Rps.le e r)
  | _, _, .dT h r q => .dT (e _ _ h) (RpsT.le e r) q
  | _, _, .dK h r q => .dK (e _ _ h) (RpsK.le e r) q
theorem Rps.le {K : PySem.W.Frag} {B B' : Hp} (e : Le B B') : ∀ {vs : List V} {ds : List D}, Rps K B vs ds → Rps K B' vs ds
  | _, _, .nil => .nil
  | _, _, .cons h r => .cons (Rp.le e h) (Rps.le e r)
theorem RpsT.le {K : PySem.W.Frag} {B B' : Hp} (e : Le B B') : ∀ {vs : List (List Key × V)} {ds : List (List Key × D)}, RpsT K B vs ds → RpsT K B' vs ds
  | _, _, .nil => .nil
  | _, _, .cons h r => .cons (Rp.le e h) (RpsT.le e r)
theorem RpsK.le {K : PySem.W.Frag} {B B' : Hp} (e : Le B B') : ∀ {vs : List (Key × V)} {ds : List (Key × D)}, RpsK K B vs ds → RpsK K B' vs ds
  | _, _, .nil => .nil
  | _, _, .cons h r => .cons (Rp.le e h) (RpsK.le e r)
end
section
variable {K : PySem.W.Frag} {B : Hp}
theorem Rps.length : ∀ {vs : List V} {ds : List D}, Rps K B vs ds → vs.length = ds.length
  | _, _, .nil => rfl
  | _, _, .cons _ r => by rw [List.length_cons, List.length_cons, Rps.length r]
theorem Rps.get : ∀ {vs : List V} {ds : List D} {i : Nat} {v : V}, Rps K B vs ds → vs[i]? = some v → ∃ d, ds[i]? = some d ∧ Rp K B v d
  | _, _, _, _, .nil, e => by simp at e
  | _, _, 0, _, .cons h _, e => by simp at e; subst e; exact ⟨_, rfl, h⟩
  | _, _, i + 1, v, .cons _ r, e => by
    obtain ⟨d, h1, h2⟩ := Rps.get (i := i) (v := v) r (by simpa using e)
    exact ⟨d, by simpa using h1, h2⟩
theorem Rps.get' : ∀ {vs : List V} {ds : List D} {i : Nat} {d : D}, Rps K B vs ds → ds[i]? = some d → ∃ v, vs[i]? = some v ∧ Rp K B v d
  | _, _, _, _, .nil, e => by simp at e
  | _, _, 0, _, .cons h _, e => by simp at e; subst e; exact ⟨_, rfl, h⟩
  | _, _, i + 1, d, .cons _ r, e => by
    obtain ⟨v, h1, h2⟩ := Rps.get' (i := i) (d := d) r (by simpa using e)
    exact ⟨v, by simpa using h1, h2⟩
theorem Rps.append : ∀ {vs ws : List V} {ds es : List D}, Rps K B vs ds → Rps K B ws es → Rps K B (vs ++ ws) (ds ++ es)
  | _, _, _, _, .nil, s => s
  | _, _, _, _, .cons h r, s => .cons h (Rps.append r s)
theorem Rps.one {v : V} {d : D} (h : Rp K B v d) : Rps K B [v] [d] := .cons h .nil
theorem Rps.take : ∀ {vs : List V} {ds : List D} (n : Nat), Rps K B vs ds → Rps K B (vs.take n) (ds.take n)
  | _, _, 0, _ => .nil
  | _, _, _ + 1, .nil => .nil
  | _, _, n + 1, .cons h r => .cons h (Rps.take n r)
theorem Rps.drop : ∀ {vs : List V} {ds : List D} (n : Nat), Rps K B vs ds → Rps K B (vs.drop n) (ds.drop n)
  | _, _, 0, r => r
  | _, _, _ + 1, .nil => .nil
  | _, _, n + 1, .cons _ r => Rps.drop n r
theorem Rps.reverse : ∀ {vs : List V} {ds : List D}, Rps K B vs ds → Rps K B vs.reverse ds.reverse
  | _, _, .nil => .nil
  | _, _, .cons h r => by rw [List.reverse_cons, List.reverse_cons]; exact (Rps.reverse r).append (.one h)
theorem Rps.eraseIdx : ∀ {vs : List V} {ds : List D} (n : Nat), Rps K B vs ds → Rps K B (vs.eraseIdx n) (ds.eraseIdx n)
  | _, _, _, .nil => by simpa using Rps.nil
  | _, _, 0, .cons _ r => by simpa using r
  | _, _, n + 1, .cons h r => by simpa using Rps.cons h (Rps.eraseIdx n r)
theorem Rps.set : ∀ {vs : List V} {ds : List D} {v : V} {d : D} (n : Nat), Rp K B v d → Rps K B vs ds → Rps K B (vs.set n v) (ds.set n d)
  | _, _, _, _, _, _, .nil => by simpa using Rps.nil
  | _, _, _, _, 0, h, .cons _ r => .cons h r
  | _, _, _, _, n + 1, h, .cons h' r => .cons h' (Rps.set n h r)
theorem Rps.ints : ∀ (ns : List Int), Rps K B (ns.map V.int) (ns.map PyData.int)
  | [] => .nil
  | n :: r => .cons (.int n) (Rps.ints r)
theorem Rps.of_ints : ∀ {vs : List V} {ns : List Int}, Rps K B vs (ns.map PyData.int) → vs = ns.map V.int
  | _, [], .nil => rfl
  | _, n :: r, .cons h t => by
    cases h
    rw [Rps.of_ints t]
    rfl
end

/-! ### the state as data -/
/-- what stands at a place of a def's frame: nothing that is told; shared data; a list, a dict that this place alone knows; another thing -/
inductive Slot where
  | no
  | dat (d : D)
  | own (xs : List D)
  | ownT (kvs : List (List Key × D))
  | ownK (kvs : List (Key × D))
  | raw (v : V)
  /-- the law's stream -/
  | sta
structure Sg where
  sl : List Slot
  ct : Int
inductive Res (α : Type) where
  | ok (a : α) (g : Sg)
  | exc (n : Str) (ct : Int)
  | bad
abbrev M (α : Type) := Sg → Res α

/-- the cell of the law's stream: its list, the numbers' list, the numbers -/
structure StC where
  a : Addr
  na : Addr
  ns : List Int
/-- an entry: the heap as it stood, its shared part -/
structure An where
  H0 : Hp
  B0 : Hp
structure Ctx where
  K : PySem.W.Frag
  mg : Str → Option Value
  st : Option StC
  E : St → XK


def RepSlot (C : Ctx) (B H : Hp) : Slot → Option V → Prop
  | .no, _ => True
  | .dat d, o => ∃ v, o = some v ∧ Rp C.K B v d
  | .own xs, o => ∃ p vs, o = some (.ref p) ∧ B p = none ∧ H p = some (.lst vs) ∧ Rps C.K B vs xs
  | .ownT kvs, o => ∃ p ks, o = some (.ref p) ∧ B p = none ∧ H p = some (.dT ks) ∧ RpsT C.K B ks kvs
  | .ownK kvs, o => ∃ p ks, o = some (.ref p) ∧ B p = none ∧ H p = some (.dK ks) ∧ RpsK C.K B ks kvs
  | .raw v, o => o = some v
  | .sta, o => ∃ c, C.st = some c ∧ o = some (.ref c.a)
def Slot.isOwn : Slot → Bool
  | .own _ => true
  | .ownT _ => true
  | .ownK _ => true
  | _ => false
def ownAt (g : List Slot) (i : Nat) : Prop := ∃ s, g[i]? = some s ∧ s.isOwn = true

structure Rep (C : Ctx) (N : An) (σ : St) (H B : Hp) (g : Sg) : Prop where
  len : g.sl.length = σ.length
  slots : ∀ (i : Nat) (s : Slot), g.sl[i]? = some s → RepSlot C B H s (σ[i]?.getD none)
  sep : ∀ (i j : Nat) (p : Addr), i ≠ j → ownAt g.sl i → ownAt g.sl j → σ[i]? = some (some (.ref p)) → σ[j]? ≠ some (some (.ref p))
  sub : ∀ a o, B a = some o → H a = some o
  up : ∀ a o, N.B0 a = some o → B a = some o
  new : ∀ a o, B a = some o → N.B0 a = some o ∨ N.H0 a = none
  ownNew : ∀ (i : Nat) (p : Addr), ownAt g.sl i → σ[i]? = some (some (.ref p)) → N.H0 p = none
  keep : ∀ a o, N.H0 a = some o → (∀ c, C.st = some c → a ≠ c.a) → H a = some o
  st : ∀ c, C.st = some c → B c.a = none ∧ H c.a = some (.lst [.ref c.na, .int g.ct]) ∧ B c.na = some (.lst (c.ns.map V.int)) ∧ N.H0 c.a ≠ none

/-- new objects alone -/
structure Grow (H B H' B' : Hp) : Prop where
  h : Le H H'
  b : Le B B'
  n : ∀ a o, B' a = some o → B a = some o ∨ H a = none
  s : ∀ a o, B' a = some o → B a = some o ∨ H' a = some o
theorem Grow.refl {H B : Hp} : Grow H B H B := ⟨.refl _, .refl _, fun _ _ q => .inl q, fun _ _ q => .inl q⟩
theorem Grow.trans {H B H1 B1 H2 B2 : Hp} (x : Grow H B H1 B1) (y : Grow H1 B1 H2 B2) : Grow H B H2 B2 where
  h := x.h.trans y.h
  b := x.b.trans y.b
  n := fun a o q => by
    rcases y.n a o q with q | q
    · exact x.n a o q
    · right
      cases e : H a with
      | none => rfl
      | some u => rw [x.h a u e] at q; cases q
  s := fun a o q => by
    rcases y.s a o q with q | q
    · rcases x.s a o q with q | q
      · exact .inl q
      · exact .inr (y.h a o q)
    · exact .inr q
theorem Grow.upd {H B : Hp} {p : Addr} {o : HO} (h : H p = none) (hb : Le B H) : Grow H B (upd H p o) (upd B p o) where
  h := fun a u q => by rw [upd_ne (ne_of_none q h)]; exact q
  b := fun a u q => by rw [upd_ne (ne_of_none (hb a u q) h)]; exact q
  n := fun a u q => by
    by_cases e : a = p
    · subst e; exact .inr h
    · rw [upd_ne e] at q; exact .inl q
  s := fun a u q => by
    by_cases e : a = p
    · subst e; rw [upd_same] at q ⊢; exact .inr q
    · rw [upd_ne e] at q; exact .inl q
/-- .. that are not told -/
theorem Grow.only {H B H' : Hp} (h : Le H H') : Grow H B H' B := ⟨h, .refl _, fun _ _ q => .inl q, fun _ _ q => .inl q⟩

theorem Grow.apart {H B H' B' : Hp} (x : Grow H B H' B') {p : Addr} {o : HO} (n : B p = none) (h : H p = some o) : B' p = none := by
  cases q : B' p with
  | none => rfl
  | some u =>
    rcases x.n p u q with z | z
    · rw [n] at z; cases z
    · rw [h] at z; cases z
theorem RepSlot.grow {C : Ctx} {H B H' B' : Hp} (x : Grow H B H' B') : ∀ {s : Slot} {o : Option V}, RepSlot C B H s o → RepSlot C B' H' s o
  | .no, _, _ => trivial
  | .dat d, o, ⟨v, e, r⟩ => ⟨v, e, r.le x.b⟩
  | .own xs, o, ⟨p, vs, e, n, h, r⟩ => ⟨p, vs, e, x.apart n h, x.h _ _ h, r.le x.b⟩
  | .ownT xs, o, ⟨p, vs, e, n, h, r⟩ => ⟨p, vs, e, x.apart n h, x.h _ _ h, r.le x.b⟩
  | .ownK xs, o, ⟨p, vs, e, n, h, r⟩ => ⟨p, vs, e, x.apart n h, x.h _ _ h, r.le x.b⟩
  | .raw v, o, e => e
  | .sta, o, e => e

section
variable {C : Ctx} {N : An} {σ : St} {H B H' B' : Hp} {g : Sg}
/-- what is new was not there at the entry -/
theorem Rep.fresh (r : Rep C N σ H B g) {a : Addr} (h : H a = none) : N.H0 a = none := by
  cases e : N.H0 a with
  | none => rfl
  | some o =>
    by_cases q : ∃ c, C.st = some c ∧ a = c.a
    · obtain ⟨c, hc, rfl⟩ := q
      have := (r.st c hc).2.1
      rw [h] at this; cases this
    · have := r.keep a o e fun c hc z => q ⟨c, hc, z⟩
      rw [h] at this; cases this
theorem Rep.grow (r : Rep C N σ H B g) (x : Grow H B H' B') : Rep C N σ H' B' g where
  len := r.len
  slots := fun i s e => (r.slots i s e).grow x
  sep := r.sep
  sub := fun a o q => by
    rcases x.s a o q with z | z
    · exact x.h _ _ (r.sub a o z)
    · exact z
  up := fun a o q => x.b _ _ (r.up a o q)
  new := fun a o q => by
    rcases x.n a o q with z | z
    · exact r.new a o z
    · exact .inr (r.fresh z)
  ownNew := r.ownNew
  keep := fun a o q h => x.h _ _ (r.keep a o q h)
  st := fun c hc => by
    obtain ⟨h1, h2, h3, h4⟩ := r.st c hc
    refine ⟨?_, x.h _ _ h2, x.b _ _ h3, h4⟩
    cases q : B' c.a with
    | none => rfl
    | some u => rcases x.n c.a u q with z | z
                · rw [h1] at z; cases z
                · rw [h2] at z; cases z
end

/-- what follows an expression -/
def Fin (C : Ctx) (N : An) (σ : St) (B : Hp) (r : Res D) (Q : VK) : Prop := match r with
  | .ok d g => ∀ v H' B', Rep C N σ H' B' g → Le B B' → Rp C.K B' v d → Q v H'
  | .exc n ct => ∀ cl H' B', Rep C N σ H' B' ⟨σ.map fun _ => Slot.no, ct⟩ → C.mg n = some (.ref cl) → C.E σ (.ref cl) none H'
  | .bad => False
/-- the reading t does what f says -/
def Sat (C : Ctx) (t : TE) (f : M D) : Prop := ∀ N σ H B g (Q : VK), Rep C N σ H B g → Fin C N σ B (f g) Q → t σ H Q
/-- a test -/
def FinT (C : Ctx) (N : An) (σ : St) (B : Hp) (r : Res Bool) (Q : Bool → Hp → Prop) : Prop := match r with
  | .ok b g => ∀ H' B', Rep C N σ H' B' g → Le B B' → Q b H'
  | .exc n ct => ∀ cl H' B', Rep C N σ H' B' ⟨σ.map fun _ => Slot.no, ct⟩ → C.mg n = some (.ref cl) → C.E σ (.ref cl) none H'
  | .bad => False
def SatT (C : Ctx) (t : TT) (f : M Bool) : Prop := ∀ N σ H B g (Q : Bool → Hp → Prop), Rep C N σ H B g → FinT C N σ B (f g) Q → t σ H Q
/-- arguments -/
def FinA (C : Ctx) (N : An) (σ : St) (B : Hp) (r : Res (List D)) (Q : List V → Hp → Prop) : Prop := match r with
  | .ok ds g => ∀ vs H' B', Rep C N σ H' B' g → Le B B' → Rps C.K B' vs ds → Q vs H'
  | .exc n ct => ∀ cl H' B', Rep C N σ H' B' ⟨σ.map fun _ => Slot.no, ct⟩ → C.mg n = some (.ref cl) → C.E σ (.ref cl) none H'
  | .bad => False
def SatA (C : Ctx) (t : TA) (f : M (List D)) : Prop := ∀ N σ H B g (Q : List V → Hp → Prop), Rep C N σ H B g → FinA C N σ B (f g) Q → t σ H Q
inductive Fl where
  | next | brk | cont
  | ret (d : D)
def FinS (C : Ctx) (N : An) (B : Hp) (r : Res Fl) (D : Ends) : Prop := match r with
  | .ok .next g => ∀ σ' H' B', Rep C N σ' H' B' g → Le B B' → D.nx σ' H'
  | .ok .brk g => ∀ σ' H' B', Rep C N σ' H' B' g → Le B B' → D.bk σ' H'
  | .ok .cont g => ∀ σ' H' B', Rep C N σ' H' B' g → Le B B' → D.ct σ' H'
  | .ok (.ret d) g => ∀ v σ' H' B', Rep C N σ' H' B' g → Le B B' → Rp C.K B' v d → D.rt v H'
  | .exc n ct => ∀ cl σ' H' B', Rep C N σ' H' B' ⟨σ'.map fun _ => Slot.no, ct⟩ → C.mg n = some (.ref cl) → C.E σ' (.ref cl) none H'
  | .bad => False
def SatS (C : Ctx) (t : TS) (f : M Fl) : Prop := ∀ N σ H B g (D : Ends), Rep C N σ H B g → FinS C N B (f g) D → t D σ H

/-! ### the monad -/
def Res.bind {α β : Type} (r : Res α) (k : α → M β) : Res β := match r with
  | .ok a g => k a g
  | .exc n ct => .exc n ct
  | .bad => .bad
def bindM {α β : Type} (f : M α) (k : α → M β) : M β := fun g => (f g).bind k
def pureM {α : Type} (a : α) : M α := fun g => .ok a g
def liftO {α : Type} (o : Option α) : M α := fun g => match o with
  | some a => .ok a g
  | none => .bad
@[simp] theorem bind_ok {α β : Type} {a : α} {g : Sg} {k : α → M β} : (Res.ok a g).bind k = k a g := rfl
@[simp] theorem bind_exc {α β : Type} {n : Str} {ct : Int} {k : α → M β} : (Res.exc n ct : Res α).bind k = .exc n ct := rfl
@[simp] theorem bind_bad {α β : Type} {k : α → M β} : (Res.bad : Res α).bind k = .bad := rfl

/-- one reading behind another -/
theorem Fin.bind {C : Ctx} {N : An} {σ : St} {B : Hp} {r : Res D} {k : D → M D} {Q : VK} (h : Fin C N σ B (r.bind k) Q) {Q' : VK}
    (hk : ∀ d g v H' B', Rep C N σ H' B' g → Le B B' → Rp C.K B' v d → Fin C N σ B' (k d g) Q → Q' v H') : Fin C N σ B r Q' := by
  cases r with
  | ok d g =>
    intro v H' B' R L rp
    refine hk d g v H' B' R L rp ?_
    have h : Fin C N σ B (k d g) Q := h
    revert h
    cases k d g with
    | ok d2 g2 => exact fun h v2 H2 B2 R2 L2 r2 => h v2 H2 B2 R2 (L.trans L2) r2
    | exc n ct => exact id
    | bad => exact id
  | exc n ct => exact h
  | bad => exact h
end DL

set_option Elab.async false
set_option linter.all false
set_option maxRecDepth 100000
set_option maxHeartbeats 4000000
namespace DL
open PySem PySem.Spec L2
open PyProof.Rows hiding St

section
variable {C : Ctx} {N : An} {σ : St} {H B H' B' : Hp} {g : Sg}

/-! ### places -/
theorem RepSlot.more {C : Ctx} {B B' H : Hp} (L : Le B B') : ∀ {s : Slot} {o : Option V}, (∀ q, s.isOwn = true → o = some (.ref q) → B q = none → B' q = none) → RepSlot C B H s o → RepSlot C B' H s o
  | .no, _, _, _ => trivial
  | .dat d, o, _, ⟨v, e, r⟩ => ⟨v, e, r.le L⟩
  | .own xs, o, hn, ⟨p, vs, e, n, h, r⟩ => ⟨p, vs, e, hn p rfl e n, h, r.le L⟩
  | .ownT xs, o, hn, ⟨p, vs, e, n, h, r⟩ => ⟨p, vs, e, hn p rfl e n, h, r.le L⟩
  | .ownK xs, o, hn, ⟨p, vs, e, n, h, r⟩ => ⟨p, vs, e, hn p rfl e n, h, r.le L⟩
  | .raw v, o, _, e => e
  | .sta, o, _, e => e
theorem own_get {C : Ctx} {B H : Hp} {s : Slot} {o : Option V} (h : s.isOwn = true) (r : RepSlot C B H s o) : ∃ p, o = some (.ref p) ∧ B p = none ∧ H p ≠ none := by
  cases s with
  | no => cases h
  | dat _ => cases h
  | raw _ => cases h
  | sta => cases h
  | own xs => obtain ⟨p, vs, e, n, q, _⟩ := r; exact ⟨p, e, n, by rw [q]; exact fun z => by cases z⟩
  | ownT xs => obtain ⟨p, vs, e, n, q, _⟩ := r; exact ⟨p, e, n, by rw [q]; exact fun z => by cases z⟩
  | ownK xs => obtain ⟨p, vs, e, n, q, _⟩ := r; exact ⟨p, e, n, by rw [q]; exact fun z => by cases z⟩
theorem getD_some {i : Nat} {v : V} (h : σ[i]?.getD none = some v) : σ[i]? = some (some v) := by
  cases e : σ[i]? with
  | none => rw [e] at h; cases h
  | some o => rw [e] at h; exact congrArg some h
theorem set_get {l : List Slot} {i j : Nat} {s s' : Slot} (h : (l.set i s)[j]? = some s') : (j = i ∧ s' = s) ∨ (j ≠ i ∧ l[j]? = some s') := by
  by_cases e : i = j
  · subst e
    by_cases hl : i < l.length
    · rw [List.getElem?_set_self hl] at h
      exact .inl ⟨rfl, (Option.some.inj h).symm⟩
    · rw [List.getElem?_eq_none (by simpa using hl)] at h; cases h
  · rw [List.getElem?_set_ne e] at h
    exact .inr ⟨fun z => e z.symm, h⟩
theorem ownAt_set {l : List Slot} {i j : Nat} {s : Slot} (h : ownAt (l.set i s) j) : (j = i ∧ s.isOwn = true) ∨ (j ≠ i ∧ ownAt l j) := by
  obtain ⟨s', h1, h2⟩ := h
  rcases set_get h1 with ⟨e, e2⟩ | ⟨e, h1⟩
  · subst e2; exact .inl ⟨e, h2⟩
  · exact .inr ⟨e, s', h1, h2⟩
/-- the cell of the stream is none of what is known here alone -/
theorem Rep.stne (r : Rep C N σ H B g) {c : StC} (hc : C.st = some c) {p : Addr} (h : N.H0 p = none) : c.a ≠ p := fun e => (r.st c hc).2.2.2 (e ▸ h)
/-- an object that nobody else knows is shared from now on -/
theorem Rep.share (r : Rep C N σ H B g) {p : Addr} {o : HO} (hH : H p = some o) (hB : B p = none) (h0 : N.H0 p = none) (hs : ∀ j : Nat, ownAt g.sl j → σ[j]? ≠ some (some (.ref p))) :
    Rep C N σ H (upd B p o) g ∧ Le B (upd B p o) := by
  have L : Le B (upd B p o) := fun a u q => by rw [upd_ne (ne_of_none q hB)]; exact q
  refine ⟨⟨r.len, fun i s e => ?_, r.sep, fun a u q => ?_, fun a u q => L _ _ (r.up a u q), fun a u q => ?_, r.ownNew, r.keep, fun c hc => ?_⟩, L⟩
  · refine (r.slots i s e).more L fun q hq e2 n => ?_
    have : q ≠ p := fun z => hs i ⟨s, e, hq⟩ (by rw [← z]; exact getD_some e2)
    rw [upd_ne this]; exact n
  · by_cases e : a = p
    · subst e; rw [upd_same] at q; rw [hH]; exact q
    · rw [upd_ne e] at q; exact r.sub a u q
  · by_cases e : a = p
    · subst e; exact .inr h0
    · rw [upd_ne e] at q; exact r.new a u q
  · obtain ⟨h1, h2, h3, h4⟩ := r.st c hc
    exact ⟨by rw [upd_ne (r.stne hc h0)]; exact h1, h2, L _ _ h3, h4⟩
/-- a place is forgotten, or holds what is shared -/
theorem Rep.put (r : Rep C N σ H B g) (i : Nat) {s : Slot} (hs : s.isOwn = false) {σ' : St} (hl : σ'.length = σ.length) (ho : ∀ j : Nat, j ≠ i → σ'[j]? = σ[j]?) (h : RepSlot C B H s (σ'[i]?.getD none)) :
    Rep C N σ' H B { g with sl := g.sl.set i s } := by
  refine ⟨by simpa [hl] using r.len, fun j s' e => ?_, fun j k p hjk h1 h2 e1 => ?_, r.sub, r.up, r.new, fun j p h1 e1 => ?_, r.keep, r.st⟩
  · rcases set_get e with ⟨e1, e2⟩ | ⟨e1, e2⟩
    · subst e1 e2; exact h
    · rw [ho j e1]; exact r.slots j s' e2
  · rcases ownAt_set h1 with ⟨_, z⟩ | ⟨z1, h1⟩
    · rw [hs] at z; cases z
    rcases ownAt_set h2 with ⟨_, z⟩ | ⟨z2, h2⟩
    · rw [hs] at z; cases z
    rw [ho j z1] at e1
    rw [ho k z2]
    exact r.sep j k p hjk h1 h2 e1
  · rcases ownAt_set h1 with ⟨_, z⟩ | ⟨z1, h1⟩
    · rw [hs] at z; cases z
    rw [ho j z1] at e1
    exact r.ownNew j p h1 e1
/-- a place that knows an object alone gives it to all -/
theorem Rep.freeze (r : Rep C N σ H B g) {i : Nat} {s : Slot} {p : Addr} {o : HO} {d : D} (hi : g.sl[i]? = some s) (hs : s.isOwn = true) (hp : σ[i]? = some (some (.ref p))) (hH : H p = some o) (hB : B p = none)
    (hd : Rp C.K (upd B p o) (.ref p) d) : Rep C N σ H (upd B p o) { g with sl := g.sl.set i (.dat d) } ∧ Le B (upd B p o) := by
  have r1 : Rep C N σ H B { g with sl := g.sl.set i .no } := r.put i rfl rfl (fun _ _ => rfl) trivial
  have h0 : N.H0 p = none := r.ownNew i p ⟨s, hi, hs⟩ hp
  obtain ⟨r2, L⟩ := r1.share hH hB h0 fun j hj e => by
    rcases ownAt_set hj with ⟨_, z⟩ | ⟨z1, hj⟩
    · cases z
    · exact r.sep i j p (Ne.symm z1) ⟨s, hi, hs⟩ hj hp e
  refine ⟨?_, L⟩
  have r3 := r2.put i (s := .dat d) rfl rfl (fun _ _ => rfl) ⟨.ref p, by rw [hp]; rfl, hd⟩
  have e : (g.sl.set i Slot.no).set i (.dat d) = g.sl.set i (.dat d) := by rw [List.set_set]
  simpa [e] using r3
end

/-! ### names and constants -/
def dT (ds : List (List Key × D)) : D := .dict (ds.map fun p => (keyTD p.1, p.2))
def dK (ds : List (Key × D)) : D := .dict (ds.map fun p => (keyD p.1, p.2))
def getM (i : Nat) : M D := fun g => match g.sl[i]? with
  | some (.dat d) => .ok d g
  | some (.own xs) => .ok (.list xs) { g with sl := g.sl.set i (.dat (.list xs)) }
  | some (.ownT kvs) => .ok (dT kvs) { g with sl := g.sl.set i (.dat (dT kvs)) }
  | some (.ownK kvs) => .ok (dK kvs) { g with sl := g.sl.set i (.dat (dK kvs)) }
  | _ => .bad
section
variable {C : Ctx}
theorem sat_var {i : Nat} : Sat C (tVar i) (getM i) := by
  intro N σ H B g Q R h
  unfold getM at h
  cases e : g.sl[i]? with
  | none => rw [e] at h; exact h.elim
  | some s =>
    rw [e] at h
    have q := R.slots i s e
    cases s with
    | no => exact h.elim
    | raw v => exact h.elim
    | sta => exact h.elim
    | dat d =>
      obtain ⟨v, e2, r⟩ := q
      exact ⟨v, getD_some e2, h v H B R (.refl _) r⟩
    | own xs =>
      obtain ⟨p, vs, e2, n, hH, r⟩ := q
      have hp := getD_some e2
      have hd : Rp C.K (upd B p (.lst vs)) (.ref p) (.list xs) := .lst upd_same (r.le fun a u z => by rw [upd_ne (ne_of_none z n)]; exact z)
      obtain ⟨R2, L⟩ := R.freeze e rfl hp hH n hd
      exact ⟨_, hp, h _ H _ R2 L hd⟩
    | ownT kvs =>
      obtain ⟨p, vs, e2, n, hH, r⟩ := q
      have hp := getD_some e2
      have hd : Rp C.K (upd B p (.dT vs)) (.ref p) (dT kvs) := .dT upd_same (r.le fun a u z => by rw [upd_ne (ne_of_none z n)]; exact z) rfl
      obtain ⟨R2, L⟩ := R.freeze e rfl hp hH n hd
      exact ⟨_, hp, h _ H _ R2 L hd⟩
    | ownK kvs =>
      obtain ⟨p, vs, e2, n, hH, r⟩ := q
      have hp := getD_some e2
      have hd : Rp C.K (upd B p (.dK vs)) (.ref p) (dK kvs) := .dK upd_same (r.le fun a u z => by rw [upd_ne (ne_of_none z n)]; exact z) rfl
      obtain ⟨R2, L⟩ := R.freeze e rfl hp hH n hd
      exact ⟨_, hp, h _ H _ R2 L hd⟩
theorem sat_const {v : V} {d : D} (h : ∀ B, Rp C.K B v d) : Sat C (tC v) (pureM d) := fun N σ H B g Q R q => q v H B R (.refl _) (h B)
theorem sat_int {i : Int} : Sat C (tC (.int i)) (pureM (.int i)) := sat_const fun _ => .int i
theorem sat_str {x : Str} : Sat C (tC (.str x)) (pureM (.str x)) := sat_const fun _ => .str x
theorem sat_bl {b : Bool} : Sat C (tC (.bl b)) (pureM (.bool b)) := sat_const fun _ => .bl b
theorem sat_non : Sat C (tC .non) (pureM .none) := sat_const fun _ => .non

/-! ### one behind another -/
theorem Sat.thn {t : TE} {f : M D} (h : Sat C t f) {N : An} {σ : St} {H B : Hp} {g : Sg} {Q : VK} (R : Rep C N σ H B g) {k : D → M D} {Q' : VK} (hf : Fin C N σ B (bindM f k g) Q')
    (hk : ∀ d g' v H' B', f g = .ok d g' → Rep C N σ H' B' g' → Le B B' → Rp C.K B' v d → Fin C N σ B' (k d g') Q' → Q v H') : t σ H Q := by
  refine h N σ H B g Q R ?_
  have hf : Fin C N σ B ((f g).bind k) Q' := hf
  cases e : f g with
  | ok d g' =>
    rw [e] at hf
    intro v H' B' R' L rp
    refine hk d g' v H' B' e R' L rp ?_
    have hf : Fin C N σ B (k d g') Q' := hf
    revert hf
    cases k d g' with
    | ok d2 g2 => exact fun hf v2 H2 B2 R2 L2 r2 => hf v2 H2 B2 R2 (L.trans L2) r2
    | exc n ct => exact id
    | bad => exact id
  | exc n ct => rw [e] at hf; exact hf
  | bad => rw [e] at hf; exact hf.elim
theorem FinA.le {N : An} {σ : St} {B B' : Hp} {r : Res (List D)} {Q : List V → Hp → Prop} (L : Le B B') (h : FinA C N σ B r Q) : FinA C N σ B' r Q := by
  cases r with
  | ok d g => exact fun v H' B2 R L2 rp => h v H' B2 R (L.trans L2) rp
  | exc n ct => exact h
  | bad => exact h
theorem Fin.le {N : An} {σ : St} {B B' : Hp} {r : Res D} {Q : VK} (L : Le B B') (h : Fin C N σ B r Q) : Fin C N σ B' r Q := by
  cases r with
  | ok d g => exact fun v H' B2 R L2 rp => h v H' B2 R (L.trans L2) rp
  | exc n ct => exact h
  | bad => exact h
theorem FinT.le {N : An} {σ : St} {B B' : Hp} {r : Res Bool} {Q : Bool → Hp → Prop} (L : Le B B') (h : FinT C N σ B r Q) : FinT C N σ B' r Q := by
  cases r with
  | ok d g => exact fun H' B2 R L2 => h H' B2 R (L.trans L2)
  | exc n ct => exact h
  | bad => exact h
theorem FinS.le {N : An} {B B' : Hp} {r : Res Fl} {D : Ends} (L : Le B B') (h : FinS C N B r D) : FinS C N B' r D := by
  cases r with
  | ok d g =>
    cases d with
    | next => exact fun σ' H' B2 R L2 => h σ' H' B2 R (L.trans L2)
    | brk => exact fun σ' H' B2 R L2 => h σ' H' B2 R (L.trans L2)
    | cont => exact fun σ' H' B2 R L2 => h σ' H' B2 R (L.trans L2)
    | ret d => exact fun v σ' H' B2 R L2 rp => h v σ' H' B2 R (L.trans L2) rp
  | exc n ct => exact h
  | bad => exact h
/-- .. towards any kind of end: what the first part's exception, its being bad mean is given -/
theorem Sat.run {t : TE} {f : M D} (h : Sat C t f) {N : An} {σ : St} {H B : Hp} {g : Sg} {Q : VK} (R : Rep C N σ H B g) {β : Type} {k : D → M β} {P : Res β → Prop} (hf : P (bindM f k g))
    (hx : ∀ n ct, P (.exc n ct) → ∀ cl H' B', Rep C N σ H' B' ⟨σ.map fun _ => Slot.no, ct⟩ → C.mg n = some (.ref cl) → C.E σ (.ref cl) none H') (hb : ¬ P .bad)
    (hk : ∀ d g' v H' B', f g = .ok d g' → Rep C N σ H' B' g' → Le B B' → Rp C.K B' v d → P (k d g') → Q v H') : t σ H Q := by
  refine h N σ H B g Q R ?_
  have hf : P ((f g).bind k) := hf
  cases e : f g with
  | ok d g' => rw [e] at hf; exact fun v H' B' R' L rp => hk d g' v H' B' e R' L rp hf
  | exc n ct => rw [e] at hf; exact hx n ct hf
  | bad => rw [e] at hf; exact hb hf
theorem SatT.run {t : TT} {f : M Bool} (h : SatT C t f) {N : An} {σ : St} {H B : Hp} {g : Sg} {Q : Bool → Hp → Prop} (R : Rep C N σ H B g) {β : Type} {k : Bool → M β} {P : Res β → Prop} (hf : P (bindM f k g))
    (hx : ∀ n ct, P (.exc n ct) → ∀ cl H' B', Rep C N σ H' B' ⟨σ.map fun _ => Slot.no, ct⟩ → C.mg n = some (.ref cl) → C.E σ (.ref cl) none H') (hb : ¬ P .bad)
    (hk : ∀ d g' H' B', f g = .ok d g' → Rep C N σ H' B' g' → Le B B' → P (k d g') → Q d H') : t σ H Q := by
  refine h N σ H B g Q R ?_
  have hf : P ((f g).bind k) := hf
  cases e : f g with
  | ok d g' => rw [e] at hf; exact fun H' B' R' L => hk d g' H' B' e R' L hf
  | exc n ct => rw [e] at hf; exact hx n ct hf
  | bad => rw [e] at hf; exact hb hf
theorem SatA.run {t : TA} {f : M (List D)} (h : SatA C t f) {N : An} {σ : St} {H B : Hp} {g : Sg} {Q : List V → Hp → Prop} (R : Rep C N σ H B g) {β : Type} {k : List D → M β} {P : Res β → Prop} (hf : P (bindM f k g))
    (hx : ∀ n ct, P (.exc n ct) → ∀ cl H' B', Rep C N σ H' B' ⟨σ.map fun _ => Slot.no, ct⟩ → C.mg n = some (.ref cl) → C.E σ (.ref cl) none H') (hb : ¬ P .bad)
    (hk : ∀ d g' vs H' B', f g = .ok d g' → Rep C N σ H' B' g' → Le B B' → Rps C.K B' vs d → P (k d g') → Q vs H') : t σ H Q := by
  refine h N σ H B g Q R ?_
  have hf : P ((f g).bind k) := hf
  cases e : f g with
  | ok d g' => rw [e] at hf; exact fun v H' B' R' L rp => hk d g' v H' B' e R' L rp hf
  | exc n ct => rw [e] at hf; exact hx n ct hf
  | bad => rw [e] at hf; exact hb hf

/-! ### argument lists -/
def consM (f : M D) (r : M (List D)) : M (List D) := bindM f fun d => bindM r fun ds => pureM (d :: ds)
theorem satA_nil : SatA C tNil (pureM []) := fun N σ H B g Q R q => q [] H B R (.refl _) .nil
theorem satA_cons {ta : TE} {tr : TA} {f : M D} {r : M (List D)} (ha : Sat C ta f) (hr : SatA C tr r) : SatA C (tCons ta tr) (consM f r) := by
  intro N σ H B g Q R q
  refine ha.run (P := fun x => FinA C N σ B x Q) R q (fun n ct z => z) (fun z => z) fun d g' v H1 B1 _ R1 L1 rp1 q1 => ?_
  refine hr.run (P := fun x => FinA C N σ B x Q) R1 q1 (fun n ct z => z) (fun z => z) fun ds g2 vs H2 B2 _ R2 L2 rp2 q2 => ?_
  exact q2 _ H2 B2 R2 (L1.trans L2) (.cons (rp1.le L2) rp2)

/-! ### displays -/
def tupM (f : M (List D)) : M D := bindM f fun ds => if ds.length ≤ sizeLine then pureM (.tuple ds) else fun _ => .bad
theorem sat_tup {t : TA} {f : M (List D)} (h : SatA C t f) : Sat C (tTup t) (tupM f) := by
  intro N σ H B g Q R q
  refine h.run (P := fun x => Fin C N σ B x Q) R q (fun n ct z => z) (fun z => z) fun ds g' vs H1 B1 _ R1 L1 rp1 q1 => ?_
  by_cases hl : ds.length ≤ sizeLine
  · rw [if_pos hl] at q1
    refine ⟨by rw [rp1.length]; exact hl, fun p hp => ?_⟩
    have G : Grow H1 B1 (upd H1 p (.tup vs)) (upd B1 p (.tup vs)) := .upd hp R1.sub
    exact q1 _ _ _ (R1.grow G) (L1.trans G.b) (.tup upd_same (rp1.le G.b))
  · rw [if_neg hl] at q1; exact q1.elim
/-- a value that nobody else knows: a list -/
def FinF (C : Ctx) (N : An) (σ : St) (B : Hp) (r : Res (List D)) (Q : VK) : Prop := match r with
  | .ok xs g => ∀ p vs H' B', Rep C N σ H' B' g → Le B B' → B' p = none → H' p = some (.lst vs) → Rps C.K B' vs xs → N.H0 p = none → (∀ j : Nat, ownAt g.sl j → σ[j]? ≠ some (some (.ref p))) → Q (.ref p) H'
  | .exc n ct => ∀ cl H' B', Rep C N σ H' B' ⟨σ.map fun _ => Slot.no, ct⟩ → C.mg n = some (.ref cl) → C.E σ (.ref cl) none H'
  | .bad => False
def SatF (C : Ctx) (t : TE) (f : M (List D)) : Prop := ∀ N σ H B g (Q : VK), Rep C N σ H B g → FinF C N σ B (f g) Q → t σ H Q
def lstM (f : M (List D)) : M D := bindM f fun ds => pureM (.list ds)
theorem SatF.sat {t : TE} {f : M (List D)} (h : SatF C t f) : Sat C t (lstM f) := by
  intro N σ H B g Q R q
  refine h N σ H B g Q R ?_
  have q : Fin C N σ B ((f g).bind fun ds => pureM (.list ds)) Q := q
  cases e : f g with
  | ok xs g' =>
    rw [e] at q
    intro p vs H' B' R' L n hH r h0 hs
    obtain ⟨R2, L2⟩ := R'.share hH n h0 hs
    exact q _ _ _ R2 (L.trans L2) (.lst upd_same (r.le L2))
  | exc n ct => rw [e] at q; exact q
  | bad => rw [e] at q; exact q
/-- an object at a free place is nobody's -/
theorem Rep.free_own {N : An} {σ : St} {H B : Hp} {g : Sg} (R : Rep C N σ H B g) {p : Addr} (hp : H p = none) (j : Nat) (hj : ownAt g.sl j) : σ[j]? ≠ some (some (.ref p)) := by
  intro e
  obtain ⟨s, h1, h2⟩ := hj
  obtain ⟨q, e2, _, hq⟩ := own_get h2 (R.slots j s h1)
  rw [e] at e2
  cases e2
  exact hq hp
theorem Rep.sub_none {N : An} {σ : St} {H B : Hp} {g : Sg} (R : Rep C N σ H B g) {p : Addr} (hp : H p = none) : B p = none := by
  cases e : B p with
  | none => rfl
  | some o => rw [R.sub p o e] at hp; cases hp
/-- a new list at a free place -/
theorem Rep.newl {N : An} {σ : St} {H B : Hp} {g : Sg} (R : Rep C N σ H B g) {p : Addr} {o : HO} (hp : H p = none) : Rep C N σ (upd H p o) B g :=
  R.grow (.only fun a u q => by rw [upd_ne (ne_of_none q hp)]; exact q)
def guardL (f : M (List D)) : M (List D) := bindM f fun ds => if ds.length ≤ sizeLine then pureM ds else fun _ => .bad
theorem satF_lst {t : TA} {f : M (List D)} (h : SatA C t f) : SatF C (tLst t) (guardL f) := by
  intro N σ H B g Q R q
  refine h.run (P := fun x => FinF C N σ B x Q) R q (fun n ct z => z) (fun z => z) fun ds g' vs H1 B1 _ R1 L1 rp1 q1 => ?_
  by_cases hl : ds.length ≤ sizeLine
  · rw [if_pos hl] at q1
    refine ⟨by rw [rp1.length]; exact hl, fun p hp => ?_⟩
    exact q1 p vs _ B1 (R1.newl hp) L1 (R1.sub_none hp) upd_same rp1 (R1.fresh hp) fun j hj => R1.free_own hp j hj
  · rw [if_neg hl] at q1; exact q1.elim

/-! ### operators by values -/
def V1 (C : Ctx) (r : V → Hp → VK → Prop) (h : D → Option D) : Prop := ∀ H B x dx d (Q : VK), Le B H → Rp C.K B x dx → h dx = some d → (∀ v H' B', Grow H B H' B' → Rp C.K B' v d → Q v H') → r x H Q
def V2 (C : Ctx) (r : R2) (h : D → D → Option D) : Prop := ∀ H B x y dx dy d (Q : VK), Le B H → Rp C.K B x dx → Rp C.K B y dy → h dx dy = some d → (∀ v H' B', Grow H B H' B' → Rp C.K B' v d → Q v H') → r x y H Q
def VN (C : Ctx) (r : List V → Hp → VK → Prop) (h : List D → Option D) : Prop := ∀ H B xs ds d (Q : VK), Le B H → Rps C.K B xs ds → h ds = some d → (∀ v H' B', Grow H B H' B' → Rp C.K B' v d → Q v H') → r xs H Q
def op1 (h : D → Option D) (f : M D) : M D := bindM f fun x => liftO (h x)
def op2 (h : D → D → Option D) (f k : M D) : M D := bindM f fun x => bindM k fun y => liftO (h x y)
def opN (h : List D → Option D) (f : M (List D)) : M D := bindM f fun xs => liftO (h xs)
theorem lift_fin {N : An} {σ : St} {B H1 B1 : Hp} {o : Option D} {g : Sg} {Q : VK} (R : Rep C N σ H1 B1 g) (L : Le B B1) (h : Fin C N σ B (liftO o g) Q) : ∃ d, o = some d ∧ ∀ v H' B', Grow H1 B1 H' B' → Rp C.K B' v d → Q v H' := by
  cases o with
  | none => exact h.elim
  | some d => exact ⟨d, rfl, fun v H' B' G rp => h v H' B' (R.grow G) (L.trans G.b) rp⟩
theorem sat_un {r : V → Hp → VK → Prop} {h : D → Option D} {ta : TE} {f : M D} (hr : V1 C r h) (ha : Sat C ta f) : Sat C (tUn r ta) (op1 h f) := by
  intro N σ H B g Q R q
  refine ha.run (P := fun x => Fin C N σ B x Q) R q (fun n ct z => z) (fun z => z) fun d g' v H1 B1 _ R1 L1 rp1 q1 => ?_
  obtain ⟨d2, e, q2⟩ := lift_fin R1 L1 q1
  exact hr H1 B1 v d d2 Q R1.sub rp1 e q2
theorem sat_op {r : R2} {h : D → D → Option D} {ta tb : TE} {f k : M D} (hr : V2 C r h) (ha : Sat C ta f) (hb : Sat C tb k) : Sat C (tOp r ta tb) (op2 h f k) := by
  intro N σ H B g Q R q
  refine ha.run (P := fun x => Fin C N σ B x Q) R q (fun n ct z => z) (fun z => z) fun d g' v H1 B1 _ R1 L1 rp1 q1 => ?_
  refine hb.run (P := fun x => Fin C N σ B x Q) R1 q1 (fun n ct z => z) (fun z => z) fun d2 g2 v2 H2 B2 _ R2 L2 rp2 q2 => ?_
  obtain ⟨d3, e, q3⟩ := lift_fin R2 (L1.trans L2) q2
  exact hr H2 B2 v v2 d d2 d3 Q R2.sub (rp1.le L2) rp2 e q3
theorem sat_cb {r : List V → Hp → VK → Prop} {h : List D → Option D} {t : TA} {f : M (List D)} (hr : VN C r h) (ha : SatA C t f) : Sat C (tCB r t) (opN h f) := by
  intro N σ H B g Q R q
  refine ha.run (P := fun x => Fin C N σ B x Q) R q (fun n ct z => z) (fun z => z) fun d g' v H1 B1 _ R1 L1 rp1 q1 => ?_
  obtain ⟨d2, e, q2⟩ := lift_fin R1 L1 q1
  exact hr H1 B1 v d d2 Q R1.sub rp1 e q2

/-! ### tests -/
def asB (f : M D) : M Bool := bindM f fun d => match d with
  | .bool b => pureM b
  | _ => fun _ => .bad
theorem satT_b {t : TE} {f : M D} (h : Sat C t f) : SatT C (tB t) (asB f) := by
  intro N σ H B g Q R q
  refine h.run (P := fun x => FinT C N σ B x Q) R q (fun n ct z => z) (fun z => z) fun d g' v H1 B1 _ R1 L1 rp1 q1 => ?_
  cases d with
  | bool b => cases rp1; exact ⟨b, rfl, q1 H1 B1 R1 L1⟩
  | _ => exact q1.elim
theorem satT_t {t : TE} {f : M D} (h : Sat C t f) : SatT C (tTest t) (asB f) := satT_b h
def andM (f k : M Bool) : M Bool := bindM f fun b => if b = true then k else pureM false
def orM (f k : M Bool) : M Bool := bindM f fun b => if b = true then pureM true else k
def notM (f : M Bool) : M Bool := bindM f fun b => pureM (!b)
theorem satT_and {t u : TT} {f k : M Bool} (h : SatT C t f) (h2 : SatT C u k) : SatT C (tAnd t u) (andM f k) := by
  intro N σ H B g Q R q
  refine h.run (P := fun x => FinT C N σ B x Q) R q (fun n ct z => z) (fun z => z) fun d g' H1 B1 _ R1 L1 q1 => ?_
  cases d with
  | true => exact h2 N σ H1 B1 g' Q R1 (FinT.le L1 q1)
  | false => exact q1 H1 B1 R1 L1
theorem satT_or {t u : TT} {f k : M Bool} (h : SatT C t f) (h2 : SatT C u k) : SatT C (tOr t u) (orM f k) := by
  intro N σ H B g Q R q
  refine h.run (P := fun x => FinT C N σ B x Q) R q (fun n ct z => z) (fun z => z) fun d g' H1 B1 _ R1 L1 q1 => ?_
  cases d with
  | true => exact q1 H1 B1 R1 L1
  | false => exact h2 N σ H1 B1 g' Q R1 (FinT.le L1 q1)
theorem satT_not {t : TT} {f : M Bool} (h : SatT C t f) : SatT C (tNot t) (notM f) := by
  intro N σ H B g Q R q
  refine h.run (P := fun x => FinT C N σ B x Q) R q (fun n ct z => z) (fun z => z) fun d g' H1 B1 _ R1 L1 q1 => ?_
  exact q1 H1 B1 R1 L1
/-- .. as values -/
def andV (f k : M D) : M D := bindM f fun d => match d with
  | .bool true => k
  | .bool false => pureM (.bool false)
  | _ => fun _ => .bad
def orV (f k : M D) : M D := bindM f fun d => match d with
  | .bool true => pureM (.bool true)
  | .bool false => k
  | _ => fun _ => .bad
def notV (f : M D) : M D := bindM f fun d => match d with
  | .bool b => pureM (.bool (!b))
  | _ => fun _ => .bad
theorem sat_andV {t u : TE} {f k : M D} (h : Sat C t f) (h2 : Sat C u k) : Sat C (tAndV t u) (andV f k) := by
  intro N σ H B g Q R q
  refine h.run (P := fun x => Fin C N σ B x Q) R q (fun n ct z => z) (fun z => z) fun d g' v H1 B1 _ R1 L1 rp1 q1 => ?_
  cases d with
  | bool b =>
    cases rp1
    cases b with
    | true => exact ⟨true, rfl, h2 N σ H1 B1 g' Q R1 (Fin.le L1 q1)⟩
    | false => exact ⟨false, rfl, q1 _ H1 B1 R1 L1 (.bl false)⟩
  | _ => exact q1.elim
theorem sat_orV {t u : TE} {f k : M D} (h : Sat C t f) (h2 : Sat C u k) : Sat C (tOrV t u) (orV f k) := by
  intro N σ H B g Q R q
  refine h.run (P := fun x => Fin C N σ B x Q) R q (fun n ct z => z) (fun z => z) fun d g' v H1 B1 _ R1 L1 rp1 q1 => ?_
  cases d with
  | bool b =>
    cases rp1
    cases b with
    | true => exact ⟨true, rfl, q1 _ H1 B1 R1 L1 (.bl true)⟩
    | false => exact ⟨false, rfl, h2 N σ H1 B1 g' Q R1 (Fin.le L1 q1)⟩
  | _ => exact q1.elim
theorem sat_notV {t : TE} {f : M D} (h : Sat C t f) : Sat C (tNotV t) (notV f) := by
  intro N σ H B g Q R q
  refine h.run (P := fun x => Fin C N σ B x Q) R q (fun n ct z => z) (fun z => z) fun d g' v H1 B1 _ R1 L1 rp1 q1 => ?_
  cases d with
  | bool b => cases rp1; exact ⟨b, rfl, q1 _ H1 B1 R1 L1 (.bl _)⟩
  | _ => exact q1.elim
def ifM {α : Type} (c : M Bool) (f k : M α) : M α := bindM c fun b => if b = true then f else k
theorem sat_if {c : TT} {t u : TE} {fc : M Bool} {f k : M D} (hc : SatT C c fc) (h : Sat C t f) (h2 : Sat C u k) : Sat C (tIf c t u) (ifM fc f k) := by
  intro N σ H B g Q R q
  refine hc.run (P := fun x => Fin C N σ B x Q) R q (fun n ct z => z) (fun z => z) fun d g' H1 B1 _ R1 L1 q1 => ?_
  cases d with
  | true => exact h N σ H1 B1 g' Q R1 (Fin.le L1 q1)
  | false => exact h2 N σ H1 B1 g' Q R1 (Fin.le L1 q1)
/-- a < b < c -/
def chainM (h h' : D → D → Option D) (f k l : M D) : M D := bindM f fun x => bindM k fun y => bindM (liftO (h x y)) fun b => match b with
  | .bool true => bindM l fun z => liftO (h' y z)
  | .bool false => pureM (.bool false)
  | _ => fun _ => .bad
theorem sat_chain {r r' : R2} {h h' : D → D → Option D} {ta tb tc : TE} {f k l : M D} (hr : V2 C r h) (hr' : V2 C r' h') (ha : Sat C ta f) (hb : Sat C tb k) (hc : Sat C tc l) : Sat C (tChain r r' ta tb tc) (chainM h h' f k l) := by
  intro N σ H B g Q R q
  refine ha.run (P := fun x => Fin C N σ B x Q) R q (fun n ct z => z) (fun z => z) fun d g' v H1 B1 _ R1 L1 rp1 q1 => ?_
  refine hb.run (P := fun x => Fin C N σ B x Q) R1 q1 (fun n ct z => z) (fun z => z) fun d2 g2 v2 H2 B2 _ R2 L2 rp2 q2 => ?_
  cases e : h d d2 with
  | none => unfold bindM at q2; rw [e] at q2; exact q2.elim
  | some d3 =>
    unfold bindM at q2; rw [e] at q2
    refine hr H2 B2 v v2 d d2 d3 _ R2.sub (rp1.le L2) rp2 e fun v3 H3 B3 G rp3 => ?_
    have R3 := R2.grow G
    have L3 : Le B B3 := (L1.trans L2).trans G.b
    cases d3 with
    | bool b =>
      cases rp3
      refine ⟨b, rfl, ?_⟩
      cases b with
      | false => exact q2 _ H3 B3 R3 L3 (.bl false)
      | true =>
        refine hc.run (P := fun x => Fin C N σ B x Q) R3 q2 (fun n ct z => z) (fun z => z) fun d4 g4 v4 H4 B4 _ R4 L4 rp4 q4 => ?_
        obtain ⟨d5, e5, q5⟩ := lift_fin R4 (L3.trans L4) q4
        exact hr' H4 B4 v2 v4 d2 d4 d5 Q R4.sub (rp2.le (G.b.trans L4)) rp4 e5 q5
    | _ => exact q2.elim
end
end DL

set_option Elab.async false
set_option linter.all false
set_option maxRecDepth 100000
set_option maxHeartbeats 4000000
namespace DL
open PySem PySem.Spec L2
open PyProof.Rows hiding St

section
variable {C : Ctx}
/-! ### statements -/
def nextM : M Fl := pureM .next
def seqM (f k : M Fl) : M Fl := bindM f fun x => match x with
  | .next => k
  | x => pureM x
theorem satS_next : SatS C tNext nextM := fun N σ H B g D R q => q σ H B R (.refl _)
theorem satS_seq {t u : TS} {f k : M Fl} (h : SatS C t f) (h2 : SatS C u k) : SatS C (tSeq t u) (seqM f k) := by
  intro N σ H B g D R q
  refine h N σ H B g _ R ?_
  have q : FinS C N B ((f g).bind fun x => match x with | .next => k | x => pureM x) D := q
  cases e : f g with
  | ok x g' =>
    rw [e] at q
    cases x with
    | next => exact fun σ' H' B' R' L => h2 N σ' H' B' g' D R' (FinS.le L q)
    | brk => exact q
    | cont => exact q
    | ret d => exact q
  | exc n ct => rw [e] at q; exact q
  | bad => rw [e] at q; exact q.elim
def dropM {α : Type} (f : M α) : M Fl := bindM f fun _ => nextM
/-- what an expression does as a statement's end, whatever follows -/
theorem Sat.toS {t : TE} {f : M D} (h : Sat C t f) {N : An} {σ : St} {H B : Hp} {g : Sg} {Q : VK} {D : Ends} (R : Rep C N σ H B g) {k : PyData → M Fl} (hf : FinS C N B (bindM f k g) D)
    (hk : ∀ d g' v H' B', f g = .ok d g' → Rep C N σ H' B' g' → Le B B' → Rp C.K B' v d → FinS C N B (k d g') D → Q v H') : t σ H Q :=
  h.run (P := fun x => FinS C N B x D) R hf (fun n ct z cl H' B' => z cl σ H' B') (fun z => z) hk
theorem SatT.toS {t : TT} {f : M Bool} (h : SatT C t f) {N : An} {σ : St} {H B : Hp} {g : Sg} {Q : Bool → Hp → Prop} {D : Ends} (R : Rep C N σ H B g) {k : Bool → M Fl} (hf : FinS C N B (bindM f k g) D)
    (hk : ∀ d g' H' B', f g = .ok d g' → Rep C N σ H' B' g' → Le B B' → FinS C N B (k d g') D → Q d H') : t σ H Q :=
  h.run (P := fun x => FinS C N B x D) R hf (fun n ct z cl H' B' => z cl σ H' B') (fun z => z) hk
theorem SatA.toS {t : TA} {f : M (List D)} (h : SatA C t f) {N : An} {σ : St} {H B : Hp} {g : Sg} {Q : List V → Hp → Prop} {D : Ends} (R : Rep C N σ H B g) {k : List PyData → M Fl} (hf : FinS C N B (bindM f k g) D)
    (hk : ∀ d g' vs H' B', f g = .ok d g' → Rep C N σ H' B' g' → Le B B' → Rps C.K B' vs d → FinS C N B (k d g') D → Q vs H') : t σ H Q :=
  h.run (P := fun x => FinS C N B x D) R hf (fun n ct z cl H' B' => z cl σ H' B') (fun z => z) hk
theorem satS_drop {t : TE} {f : M D} (h : Sat C t f) : SatS C (tDrop t) (dropM f) := by
  intro N σ H B g D R q
  exact h.toS R q fun d g' v H1 B1 _ R1 L1 rp1 q1 => q1 σ H1 B1 R1 L1
def retM (f : M D) : M Fl := bindM f fun d => pureM (.ret d)
theorem satS_ret {t : TE} {f : M D} (h : Sat C t f) : SatS C (tRet t) (retM f) := by
  intro N σ H B g D R q
  exact h.toS R q fun d g' v H1 B1 _ R1 L1 rp1 q1 => q1 v σ H1 B1 R1 L1 rp1
theorem satS_retN : SatS C tRetN (pureM (.ret .none)) := fun N σ H B g D R q => q _ σ H B R (.refl _) .non
theorem satS_brk : SatS C tBreak (pureM .brk) := fun N σ H B g D R q => q σ H B R (.refl _)
theorem satS_cont : SatS C tCont (pureM .cont) := fun N σ H B g D R q => q σ H B R (.refl _)
theorem satS_never : SatS C tNever (fun _ => .bad) := fun N σ H B g D R q => q
theorem satS_if {c : TT} {t u : TS} {fc : M Bool} {f k : M Fl} (hc : SatT C c fc) (h : SatS C t f) (h2 : SatS C u k) : SatS C (tIfS c t u) (ifM fc f k) := by
  intro N σ H B g D R q
  refine hc.toS R q fun d g' H1 B1 _ R1 L1 q1 => ?_
  cases d with
  | true => exact h N σ H1 B1 g' D R1 (FinS.le L1 q1)
  | false => exact h2 N σ H1 B1 g' D R1 (FinS.le L1 q1)

/-! ### targets -/
def FinG (C : Ctx) (N : An) (ts : List Nat) (σ : St) (B : Hp) (r : Res Unit) (Q : St → Hp → Prop) : Prop := match r with
  | .ok _ g => ∀ σ' H' B', Rep C N σ' H' B' g → Le B B' → σ'.length = σ.length → (∀ j, j ∉ ts → σ'[j]? = σ[j]?) → Q σ' H'
  | .exc _ _ => False
  | .bad => False
def SatG (C : Ctx) (ts : List Nat) (t : TG) (k : D → M Unit) : Prop := ∀ N v σ H B g d (Q : St → Hp → Prop), Rep C N σ H B g → Rp C.K B v d → FinG C N ts σ B (k d g) Q → t v σ H Q
def putM (i : Nat) (d : D) : M Unit := fun g => .ok () { g with sl := g.sl.set i (.dat d) }
theorem Rep.set {N : An} {σ : St} {H B : Hp} {g : Sg} (R : Rep C N σ H B g) (i : Nat) {v : V} {d : D} (rp : Rp C.K B v d) : Rep C N (σ.set i (some v)) H B { g with sl := g.sl.set i (.dat d) } := by
  by_cases hi : i < σ.length
  · exact R.put i rfl (by simp) (fun j hj => List.getElem?_set_ne (fun e => hj e.symm)) ⟨v, by rw [List.getElem?_set_self hi]; rfl, rp⟩
  · have e1 : σ.set i (some v) = σ := List.set_eq_of_length_le (by omega)
    have e2 : g.sl.set i (.dat d) = g.sl := List.set_eq_of_length_le (by rw [R.len]; omega)
    rw [e1, e2]; exact R
theorem satG_name {i : Nat} : SatG C [i] (gName i) (putM i) := by
  intro N v σ H B g d Q R rp q
  exact q _ H B (R.set i rp) (.refl _) (by simp) fun j hj => List.getElem?_set_ne fun e => hj (by simp [e])
def SatGs (C : Ctx) (ts : List Nat) (t : TGs) (k : List D → M Unit) : Prop := ∀ N vs σ H B g ds (Q : St → Hp → Prop), Rep C N σ H B g → Rps C.K B vs ds → FinG C N ts σ B (k ds g) Q → t vs σ H Q
def gNilM (ds : List D) : M Unit := match ds with
  | [] => pureM ()
  | _ :: _ => fun _ => .bad
def gConsM (k : D → M Unit) (r : List D → M Unit) (ds : List D) : M Unit := match ds with
  | [] => fun _ => .bad
  | d :: ds => bindM (k d) fun _ => r ds
theorem satGs_nil : SatGs C [] gNil gNilM := by
  intro N vs σ H B g ds Q R rp q
  cases rp with
  | nil => exact ⟨rfl, q σ H B R (.refl _) rfl fun _ _ => rfl⟩
  | cons _ _ => exact q.elim
theorem satGs_cons {ts us : List Nat} {t : TG} {u : TGs} {k : D → M Unit} {r : List D → M Unit} (h : SatG C ts t k) (h2 : SatGs C us u r) : SatGs C (ts ++ us) (gCons t u) (gConsM k r) := by
  intro N vs σ H B g ds Q R rp q
  cases rp with
  | nil => exact q.elim
  | cons rp rps =>
    rename_i v vs d ds
    refine ⟨v, vs, rfl, h N v σ H B g d _ R rp ?_⟩
    have q : FinG C N (ts ++ us) σ B ((k d g).bind fun _ => r ds) Q := q
    cases e : k d g with
    | ok x g' =>
      rw [e] at q
      intro σ1 H1 B1 R1 L1 e1 e2
      refine h2 N vs σ1 H1 B1 g' ds Q R1 (rps.le L1) ?_
      have q : FinG C N (ts ++ us) σ B (r ds g') Q := q
      revert q
      cases r ds g' with
      | ok y g2 => exact fun q σ2 H2 B2 R2 L2 f1 f2 => q σ2 H2 B2 R2 (L1.trans L2) (f1.trans e1) fun j hj => (f2 j fun z => hj (List.mem_append_right _ z)).trans (e2 j fun z => hj (List.mem_append_left _ z))
      | exc n ct => exact id
      | bad => exact id
    | exc n ct => rw [e] at q; exact q.elim
    | bad => rw [e] at q; exact q.elim
def tupG (n : Nat) (k : List D → M Unit) (d : D) : M Unit := match d with
  | .tuple ds => if ds.length = n then k ds else fun _ => .bad
  | _ => fun _ => .bad
theorem satG_tup {n : Nat} {ts : List Nat} {t : TGs} {k : List D → M Unit} (h : SatGs C ts t k) : SatG C ts (gTup C.K n t) (tupG n k) := by
  intro N v σ H B g d Q R rp q
  cases rp with
  | tup hq rps =>
    rename_i a vs ds
    by_cases hl : ds.length = n
    · have q : FinG C N ts σ B ((if ds.length = n then k ds else fun _ => .bad) g) Q := q
      rw [if_pos hl] at q
      exact ⟨a, vs, rfl, SqT.of (R.sub _ _ hq), by rw [rps.length]; exact hl, h N vs σ H B g ds Q R rps q⟩
    · have q : FinG C N ts σ B ((if ds.length = n then k ds else fun _ => .bad) g) Q := q
      rw [if_neg hl] at q
      exact q.elim
  | _ => exact q.elim
/-- a target's store, then something -/
def goG {β : Type} (k : M Unit) (f : M β) : M β := fun g => match k g with
  | .ok _ g' => f g'
  | _ => .bad
theorem SatG.toS {ts : List Nat} {tg : TG} {k : D → M Unit} (h2 : SatG C ts tg k) {N : An} {v : V} {σ : St} {H B : Hp} {g : Sg} {d : PyData} {Q : St → Hp → Prop} {β : Type} {f : M β} {P : Res β → Prop} (hb : ¬ P .bad) (R : Rep C N σ H B g) (rp : Rp C.K B v d) (q : P (goG (k d) f g))
    (hk : ∀ g' σ' H' B', k d g = .ok () g' → Rep C N σ' H' B' g' → Le B B' → σ'.length = σ.length → (∀ j, j ∉ ts → σ'[j]? = σ[j]?) → P (f g') → Q σ' H') : tg v σ H Q := by
  refine h2 N v σ H B g d _ R rp ?_
  unfold goG at q
  cases e : k d g with
  | ok x g2 => rw [e] at q; exact fun σ' H' B' R' L e1 e2 => hk g2 σ' H' B' e R' L e1 e2 q
  | exc n ct => rw [e] at q; exact hb q
  | bad => rw [e] at q; exact hb q
def asgM (f : M D) (k : D → M Unit) : M Fl := bindM f fun d => goG (k d) nextM
theorem satS_asg {te : TE} {tg : TG} {f : M D} {k : D → M Unit} {ts : List Nat} (h : Sat C te f) (h2 : SatG C ts tg k) : SatS C (tAsg te tg) (asgM f k) := by
  intro N σ H B g D R q
  refine h.toS R q fun d g' v H1 B1 _ R1 L1 rp1 q1 => ?_
  exact h2.toS (P := fun x => FinS C N B x D) (fun z => z) R1 rp1 q1 fun g2 σ' H' B' _ R' L _ _ q2 => q2 σ' H' B' R' (L1.trans L)
/-- name = a value that nobody else knows -/
def asgF (f : M (List D)) (i : Nat) : M Fl := bindM f fun xs => fun g => .ok .next { g with sl := g.sl.set i (.own xs) }
theorem Rep.setOwn {N : An} {σ : St} {H B : Hp} {g : Sg} (R : Rep C N σ H B g) (i : Nat) {s : Slot} {p : Addr} (hr : RepSlot C B H s (some (.ref p))) (h0 : N.H0 p = none) (hs : ∀ j : Nat, ownAt g.sl j → σ[j]? ≠ some (some (.ref p))) :
    Rep C N (σ.set i (some (.ref p))) H B { g with sl := g.sl.set i s } := by
  by_cases hi : i < σ.length
  · have eq : ∀ j, j ≠ i → (σ.set i (some (.ref p)))[j]? = σ[j]? := fun j hj => List.getElem?_set_ne fun e => hj e.symm
    refine ⟨by simpa using R.len, fun j s' e => ?_, fun j k q hjk h1 h2 e1 e2 => ?_, R.sub, R.up, R.new, fun j q h1 e1 => ?_, R.keep, R.st⟩
    · rcases set_get e with ⟨e1, e2⟩ | ⟨e1, e2⟩
      · subst e1 e2; rw [List.getElem?_set_self hi]; exact hr
      · rw [eq j e1]; exact R.slots j s' e2
    · rcases ownAt_set h1 with ⟨z, _⟩ | ⟨z1, h1'⟩
      · rw [z, List.getElem?_set_self hi] at e1
        cases e1
        rcases ownAt_set h2 with ⟨z', _⟩ | ⟨z2, h2'⟩
        · exact hjk (z.trans z'.symm)
        · rw [eq k z2] at e2; exact hs k h2' e2
      · rw [eq j z1] at e1
        rcases ownAt_set h2 with ⟨z, _⟩ | ⟨z2, h2'⟩
        · rw [z, List.getElem?_set_self hi] at e2
          cases e2
          exact hs j h1' e1
        · rw [eq k z2] at e2; exact R.sep j k q hjk h1' h2' e1 e2
    · rcases ownAt_set h1 with ⟨z, _⟩ | ⟨z1, h1'⟩
      · rw [z, List.getElem?_set_self hi] at e1
        cases e1
        exact h0
      · rw [eq j z1] at e1; exact R.ownNew j q h1' e1
  · have e1 : σ.set i (some (.ref p)) = σ := List.set_eq_of_length_le (by omega)
    have e2 : g.sl.set i s = g.sl := List.set_eq_of_length_le (by rw [R.len]; omega)
    rw [e1, e2]; exact R
theorem satS_asgF {te : TE} {f : M (List D)} {i : Nat} (h : SatF C te f) : SatS C (tAsg te (gName i)) (asgF f i) := by
  intro N σ H B g D R q
  refine h N σ H B g _ R ?_
  have q : FinS C N B ((f g).bind fun xs => fun g => .ok .next { g with sl := g.sl.set i (.own xs) }) D := q
  cases e : f g with
  | ok xs g' =>
    rw [e] at q
    intro p vs H' B' R' L n hH r h0 hs
    exact q _ H' B' (R'.setOwn i ⟨p, vs, rfl, n, hH, r⟩ h0 hs) L
  | exc n ct => rw [e] at q; exact fun cl H' B' => q cl σ H' B'
  | bad => rw [e] at q; exact q.elim
/-- a, b = x, y with local names -/
def parM (i j : Nat) (f : M (List D)) : M Fl := bindM f fun ds => match ds with
  | [x, y] => fun g => .ok .next { g with sl := (g.sl.set i (.dat x)).set j (.dat y) }
  | _ => fun _ => .bad
theorem satS_par {i j : Nat} {ta : TA} {f : M (List D)} (h : SatA C ta f) : SatS C (tPar i j ta) (parM i j f) := by
  intro N σ H B g D R q
  refine h.toS R q fun ds g' vs H1 B1 _ R1 L1 rp1 q1 => ?_
  cases rp1 with
  | nil => exact q1.elim
  | cons ra rr =>
    cases rr with
    | nil => exact q1.elim
    | cons rb rr =>
      cases rr with
      | nil => exact ⟨_, _, rfl, q1 _ H1 B1 ((R1.set i ra).set j rb) L1⟩
      | cons _ _ => exact q1.elim
/-- .. both lists that nobody else knows, or the first alone -/
def parF (i j : Nat) (f k : M (List D)) : M Fl := bindM f fun xs => bindM k fun ys => fun g => .ok .next { g with sl := (g.sl.set i (.own xs)).set j (.own ys) }
/-- name op= e -/
def augM (i : Nat) (h : D → D → Option D) (f : M D) : M Fl := fun g => match g.sl[i]? with
  | some (.dat x) => bindM f (fun y => bindM (liftO (h x y)) fun z => goG (putM i z) nextM) g
  | _ => .bad
def rip (t : TIp) : R2 := fun x y H Q => t x y H Q
theorem satS_aug {i : Nat} {te : TE} {ti : TIp} {h : D → D → Option D} {f : M D} (hr : V2 C ti h) (he : Sat C te f) : SatS C (tAug i te ti) (augM i h f) := by
  intro N σ H B g D R q
  unfold augM at q
  cases e : g.sl[i]? with
  | none => rw [e] at q; exact q.elim
  | some s =>
    rw [e] at q
    cases s with
    | dat x =>
      obtain ⟨v, e1, rp⟩ := R.slots i _ e
      refine ⟨v, getD_some e1, ?_⟩
      refine he.toS R q fun d g' v2 H1 B1 _ R1 L1 rp1 q1 => ?_
      have q1 : FinS C N B (((liftO (h x d)) g').bind fun z => goG (putM i z) nextM) D := q1
      cases e2 : h x d with
      | none => rw [e2] at q1; exact q1.elim
      | some z =>
        rw [e2] at q1
        exact hr H1 B1 v v2 x d z _ R1.sub (rp.le L1) rp1 e2 fun v3 H3 B3 G rp3 => q1 _ H3 B3 ((R1.grow G).set i rp3) (L1.trans G.b)
    | _ => exact q.elim
/-! ### forgetting -/
def Sg.forget (g : Sg) (is : List Nat) : Sg := { g with sl := is.foldr (fun i l => l.set i .no) g.sl }
theorem Rep.forget {N : An} {σ : St} {H B : Hp} {g : Sg} (R : Rep C N σ H B g) : ∀ is : List Nat, Rep C N σ H B (g.forget is)
  | [] => R
  | i :: is => (R.forget is).put i rfl rfl (fun _ _ => rfl) trivial
def forgetM {α : Type} (is : List Nat) (f : M α) : M α := fun g => match f g with
  | .ok a g' => .ok a (g'.forget is)
  | r => r
theorem satS_forget {t : TS} {f : M Fl} (is : List Nat) (h : SatS C t f) : SatS C t (forgetM is f) := by
  intro N σ H B g D R q
  refine h N σ H B g D R ?_
  unfold forgetM at q
  cases e : f g with
  | ok x g' =>
    rw [e] at q
    cases x with
    | next => exact fun σ' H' B' R' => q σ' H' B' (R'.forget is)
    | brk => exact fun σ' H' B' R' => q σ' H' B' (R'.forget is)
    | cont => exact fun σ' H' B' R' => q σ' H' B' (R'.forget is)
    | ret d => exact fun v σ' H' B' R' => q v σ' H' B' (R'.forget is)
  | exc n ct => rw [e] at q; exact q
  | bad => rw [e] at q; exact q
end

/-! ### what is walked -/
structure Walk (C : Ctx) (J : It) (B : Hp) (xs : List D) : Prop where
  go : ∀ i H, i < xs.length → Le B H → J.go i H
  stop : ∀ H, Le B H → J.stop xs.length H
  yld : ∀ i H x H' B2 d, J.yld i H x H' → xs[i]? = some d → Le B B2 → Le B2 H → ∃ B3, Grow H B2 H' B3 ∧ Rp C.K B3 x d
def FinI (C : Ctx) (N : An) (σ : St) (B : Hp) (r : Res (List D)) (R : It → Hp → Prop) : Prop := match r with
  | .ok xs g => ∀ J H' B', Rep C N σ H' B' g → Le B B' → Walk C J B' xs → R J H'
  | .exc n ct => ∀ cl H' B', Rep C N σ H' B' ⟨σ.map fun _ => Slot.no, ct⟩ → C.mg n = some (.ref cl) → C.E σ (.ref cl) none H'
  | .bad => False
def SatI (C : Ctx) (wi : TI) (f : M (List D)) : Prop := ∀ N σ H B g (R : It → Hp → Prop), Rep C N σ H B g → FinI C N σ B (f g) R → wi σ H R
section
variable {C : Ctx}
/-! ### for -/
def forM (xs : List D) (k : D → M Unit) (body : M Fl) : M Fl := match xs with
  | [] => nextM
  | x :: r => goG (k x) (bindM body fun f => match f with
    | .next => forM r k body
    | .cont => forM r k body
    | .brk => nextM
    | .ret d => pureM (.ret d))
def forS (src : M (List D)) (k : D → M Unit) (body : M Fl) : M Fl := bindM src fun xs => forM xs k body
theorem satS_for {wi : TI} {tg : TG} {tb : TS} {ts : List Nat} {src : M (List D)} {k : D → M Unit} {body : M Fl} (hs : SatI C wi src) (hg : SatG C ts tg k) (hb : SatS C tb body) : SatS C (tFor wi tg tb) (forS src k body) := by
  intro N σ H B g D R q
  refine hs N σ H B g _ R ?_
  have q : FinS C N B ((src g).bind fun xs => forM xs k body) D := q
  cases e : src g with
  | exc n ct => rw [e] at q; exact fun cl H' B' => q cl σ H' B'
  | bad => rw [e] at q; exact q.elim
  | ok xs g1 =>
    rw [e] at q
    intro J H1 B1 R1 L1 W
    refine ⟨fun i m σ' H' => ∃ B' g', i ≤ xs.length ∧ m = xs.length - i ∧ Rep C N σ' H' B' g' ∧ Le B1 B' ∧ FinS C N B' (forM (xs.drop i) k body g') D, ⟨xs.length, B1, g1, Nat.zero_le _, rfl, R1, .refl _, FinS.le L1 q⟩, ?_⟩
    rintro i m σ2 H2 ⟨B2, g2, hi, rfl, R2, L2, q2⟩
    by_cases hlt : i < xs.length
    · have hd : xs.drop i = xs[i] :: xs.drop (i + 1) := List.drop_eq_getElem_cons hlt
      rw [hd] at q2
      refine .inr ⟨W.go i H2 hlt (fun a o z => R2.sub a o (L2 a o z)), fun σ' H' => ∃ B' g', Rep C N σ' H' B' g' ∧ Le B1 B' ∧ FinS C N B' (forM (xs.drop (i + 1)) k body g') D, fun σ' H' ⟨B', g', z1, z2, z3⟩ => ⟨_, Nat.sub_lt_sub_left hlt (Nat.lt_succ_self i), B', g', hlt, rfl, z1, z2, z3⟩, fun x H3 y => ?_⟩
      obtain ⟨B3, G, rp⟩ := W.yld i H2 x H3 B2 xs[i] y (by simp [hlt]) L2 R2.sub
      have R3 := R2.grow G
      have q2 : FinS C N B2 (goG (k xs[i]) (bindM body fun f => match f with | .next => forM (xs.drop (i + 1)) k body | .cont => forM (xs.drop (i + 1)) k body | .brk => nextM | .ret d => pureM (.ret d)) g2) D := q2
      refine hg.toS (P := fun x => FinS C N B2 x D) (fun z => z) R3 rp q2 fun g4 σ4 H4 B4 _ R4 L4 _ _ q4 => ?_
      refine hb N σ4 H4 B4 g4 _ R4 ?_
      have q4 : FinS C N B2 ((body g4).bind fun f => match f with | .next => forM (xs.drop (i + 1)) k body | .cont => forM (xs.drop (i + 1)) k body | .brk => nextM | .ret d => pureM (.ret d)) D := q4
      have L24 : Le B2 B4 := G.b.trans L4
      cases e5 : body g4 with
      | exc n ct => rw [e5] at q4; exact q4
      | bad => rw [e5] at q4; exact q4.elim
      | ok f g5 =>
        rw [e5] at q4
        cases f with
        | next => exact fun σ5 H5 B5 R5 L5 => ⟨B5, g5, R5, (L2.trans L24).trans L5, FinS.le (L24.trans L5) q4⟩
        | cont => exact fun σ5 H5 B5 R5 L5 => ⟨B5, g5, R5, (L2.trans L24).trans L5, FinS.le (L24.trans L5) q4⟩
        | brk => exact fun σ5 H5 B5 R5 L5 => q4 σ5 H5 B5 R5 (L24.trans L5)
        | ret d => exact fun v σ5 H5 B5 R5 L5 rp5 => q4 v σ5 H5 B5 R5 (L24.trans L5) rp5
    · have hi' : i = xs.length := by omega
      subst hi'
      rw [List.drop_length] at q2
      exact .inl ⟨W.stop H2 (fun a o z => R2.sub a o (L2 a o z)), q2 σ2 H2 B2 R2 (.refl _)⟩
/-! ### while -/
def whileM : Nat → M Bool → M Fl → M Fl
  | 0, _, _ => fun _ => .bad
  | n + 1, c, body => bindM c fun b => if b = true then (bindM body fun f => match f with
    | .next => whileM n c body
    | .cont => whileM n c body
    | .brk => nextM
    | .ret d => pureM (.ret d)) else nextM
theorem satS_while {c : TT} {tb : TS} {fc : M Bool} {body : M Fl} (n : Nat) (hc : SatT C c fc) (hb : SatS C tb body) : SatS C (tWhile c tb) (whileM n fc body) := by
  intro N σ H B g D R q
  refine ⟨fun m σ' H' => ∃ B' g', Rep C N σ' H' B' g' ∧ FinS C N B' (whileM m fc body g') D, ⟨n, B, g, R, q⟩, ?_⟩
  rintro m σ1 H1 ⟨B1, g1, R1, q1⟩
  cases m with
  | zero => exact q1.elim
  | succ m =>
    refine hc.toS R1 q1 fun b g2 H2 B2 _ R2 L2 q2 => ?_
    cases b with
    | false => exact q2 σ1 H2 B2 R2 L2
    | true =>
      refine ⟨fun σ' H' => ∃ B' g', Rep C N σ' H' B' g' ∧ FinS C N B' (whileM m fc body g') D, fun σ' H' z => ⟨m, Nat.lt_succ_self m, z⟩, ?_⟩
      refine hb N σ1 H2 B2 g2 _ R2 ?_
      have q2 : FinS C N B1 ((body g2).bind fun f => match f with | .next => whileM m fc body | .cont => whileM m fc body | .brk => nextM | .ret d => pureM (.ret d)) D := q2
      cases e5 : body g2 with
      | exc n ct => rw [e5] at q2; exact q2
      | bad => rw [e5] at q2; exact q2.elim
      | ok f g5 =>
        rw [e5] at q2
        cases f with
        | next => exact fun σ5 H5 B5 R5 L5 => ⟨B5, g5, R5, FinS.le (L2.trans L5) q2⟩
        | cont => exact fun σ5 H5 B5 R5 L5 => ⟨B5, g5, R5, FinS.le (L2.trans L5) q2⟩
        | brk => exact fun σ5 H5 B5 R5 L5 => q2 σ5 H5 B5 R5 (L2.trans L5)
        | ret d => exact fun v σ5 H5 B5 R5 L5 rp5 => q2 v σ5 H5 B5 R5 (L2.trans L5) rp5
end
end DL

set_option Elab.async false
set_option linter.all false
set_option maxRecDepth 100000
set_option maxHeartbeats 4000000
namespace DL
open PySem PySem.Spec L2
open PyProof.Rows hiding St

section
variable {C : Ctx} {N : An} {σ : St} {H B H' B' : Hp} {g : Sg}
theorem Rep.chE (R : Rep C N σ H B g) (E' : St → XK) : Rep { C with E := E' } N σ H B g :=
  ⟨R.len, R.slots, R.sep, R.sub, R.up, R.new, R.ownNew, R.keep, R.st⟩
theorem Rep.unE {E' : St → XK} (R : Rep { C with E := E' } N σ H B g) : Rep C N σ H B g :=
  ⟨R.len, R.slots, R.sep, R.sub, R.up, R.new, R.ownNew, R.keep, R.st⟩
/-- nothing is raised in what follows -/
abbrev Ctx.q (C : Ctx) : Ctx := { C with E := fun _ => E0 }

theorem forget_get : ∀ (is : List Nat) (l : List Slot) (j : Nat) (s : Slot), (is.foldr (fun i l => l.set i Slot.no) l)[j]? = some s → (s = .no ∧ j ∈ is) ∨ (j ∉ is ∧ l[j]? = some s)
  | [], l, j, s, h => .inr ⟨by simp, h⟩
  | i :: is, l, j, s, h => by
    rw [List.foldr_cons] at h
    rcases set_get h with ⟨e, e2⟩ | ⟨e, h⟩
    · exact .inl ⟨e2, by simp [e]⟩
    · rcases forget_get is l j s h with ⟨a, b⟩ | ⟨a, b⟩
      · exact .inl ⟨a, List.mem_cons_of_mem _ b⟩
      · exact .inr ⟨by simp [e, a], b⟩
theorem forget_len (is : List Nat) (l : List Slot) : (is.foldr (fun i l => l.set i Slot.no) l).length = l.length := by
  induction is with
  | nil => rfl
  | cons i is ih => rw [List.foldr_cons, List.length_set, ih]
theorem ownAt_forget {is : List Nat} {j : Nat} (h : ownAt (g.forget is).sl j) : j ∉ is ∧ ownAt g.sl j := by
  obtain ⟨s, h1, h2⟩ := h
  rcases forget_get is g.sl j s h1 with ⟨e, _⟩ | ⟨a, b⟩
  · subst e; cases h2
  · exact ⟨a, s, b, h2⟩
/-- other values at places that are forgotten -/
theorem Rep.other (R : Rep C N σ H B g) {σ' : St} (is : List Nat) (hl : σ'.length = σ.length) (he : ∀ j : Nat, j ∉ is → σ'[j]? = σ[j]?) : Rep C N σ' H B (g.forget is) := by
  refine ⟨by show (is.foldr _ g.sl).length = _; rw [forget_len, hl]; exact R.len, fun j s e => ?_, fun j k p hjk h1 h2 e1 => ?_, R.sub, R.up, R.new, fun j p h1 e1 => ?_, R.keep, R.st⟩
  · rcases forget_get is g.sl j s e with ⟨e1, _⟩ | ⟨a, b⟩
    · subst e1; trivial
    · rw [he j a]; exact R.slots j s b
  · obtain ⟨a, h1⟩ := ownAt_forget h1
    obtain ⟨b, h2⟩ := ownAt_forget h2
    rw [he j a] at e1
    rw [he k b]
    exact R.sep j k p hjk h1 h2 e1
  · obtain ⟨a, h1⟩ := ownAt_forget h1
    rw [he j a] at e1
    exact R.ownNew j p h1 e1
theorem wipe_off {vs : List Nat} {j : Nat} (h : j ∉ vs) : (wipe σ vs)[j]? = σ[j]? := wipe_out h
theorem wipe_eq {σ σ' : St} : ∀ (vs : List Nat), σ'.length = σ.length → (∀ j : Nat, j ∉ vs → σ'[j]? = σ[j]?) → wipe σ' vs = wipe σ vs := by
  intro vs hl he
  apply List.ext_getElem?
  intro j
  by_cases hj : j ∈ vs
  · have key : ∀ (τ : St) (vs : List Nat), j ∈ vs → (wipe τ vs)[j]? = if j < τ.length then some none else none := by
      intro τ vs
      induction vs with
      | nil => intro h; cases h
      | cons v vs ih =>
        intro h
        unfold wipe
        by_cases e : v = j
        · subst e
          by_cases hv : v < τ.length
          · rw [List.getElem?_set_self (by rw [wipe_length]; exact hv), if_pos hv]
          · rw [if_neg hv, List.getElem?_eq_none (by simp [wipe_length]; omega)]
        · rw [List.getElem?_set_ne e]
          exact ih (by rcases List.mem_cons.mp h with z | z
                       · exact absurd z.symm e
                       · exact z)
    rw [key σ' vs hj, key σ vs hj, hl]
  · rw [wipe_off hj, wipe_off hj, he j hj]

/-! ### an object of our own that is kept through -/
theorem Rep.anchor (R : Rep C N σ H B g) {p : Addr} {o : HO} (hH : H p = some o) (hB : B p = none) (h0 : N.H0 p = none) (hs : ∀ j : Nat, ownAt g.sl j → σ[j]? ≠ some (some (.ref p))) : Rep C ⟨upd N.H0 p o, N.B0⟩ σ H B g where
  len := R.len
  slots := R.slots
  sep := R.sep
  sub := R.sub
  up := R.up
  new := fun a u q => by
    rcases R.new a u q with z | z
    · exact .inl z
    · right
      have : a ≠ p := fun e => by rw [e, hB] at q; cases q
      show upd N.H0 p o a = none
      rw [upd_ne this]; exact z
  ownNew := fun j q hj e => by
    have : q ≠ p := fun z => hs j hj (z ▸ e)
    show upd N.H0 p o q = none
    rw [upd_ne this]; exact R.ownNew j q hj e
  keep := fun a u q hc => by
    have q : upd N.H0 p o a = some u := q
    by_cases e : a = p
    · subst e; rw [upd_same] at q; rw [hH]; exact q
    · rw [upd_ne e] at q; exact R.keep a u q hc
  st := fun c hc => by
    obtain ⟨a, b, d, e⟩ := R.st c hc
    refine ⟨a, b, d, ?_⟩
    show upd N.H0 p o c.a ≠ none
    rw [upd_ne (R.stne hc h0)]; exact e
theorem Rep.unanchor {p : Addr} {o : HO} (R : Rep C ⟨upd N.H0 p o, N.B0⟩ σ H B g) (h0 : N.H0 p = none) (hb : N.B0 p = none) (hst : ∀ c, C.st = some c → c.a ≠ p) :
    Rep C N σ H B g ∧ H p = some o ∧ B p = none ∧ ∀ j : Nat, ownAt g.sl j → σ[j]? ≠ some (some (.ref p)) := by
  have le : ∀ a u, N.H0 a = some u → upd N.H0 p o a = some u := fun a u q => by rw [upd_ne (ne_of_none q h0)]; exact q
  have no : ∀ a, upd N.H0 p o a = none → N.H0 a = none := fun a q => by
    cases e : N.H0 a with
    | none => rfl
    | some u => rw [le a u e] at q; cases q
  refine ⟨⟨R.len, R.slots, R.sep, R.sub, R.up, fun a u q => ?_, fun j q hj e => no q (R.ownNew j q hj e), fun a u q hc => R.keep a u (le a u q) hc, fun c hc => ?_⟩, ?_, ?_, fun j hj e => ?_⟩
  · rcases R.new a u q with z | z
    · exact .inl z
    · exact .inr (no a z)
  · obtain ⟨a, b, d, e⟩ := R.st c hc
    refine ⟨a, b, d, ?_⟩
    have e : upd N.H0 p o c.a ≠ none := e
    rw [upd_ne (hst c hc)] at e; exact e
  · exact R.keep p o (show upd N.H0 p o p = some o from upd_same) fun c hc e => hst c hc e.symm
  · cases q : B p with
    | none => rfl
    | some u =>
      rcases R.new p u q with z | z
      · have z : N.B0 p = some u := z
        rw [hb] at z; cases z
      · have z : upd N.H0 p o p = none := z
        rw [upd_same] at z; cases z
  · have z : upd N.H0 p o p = none := R.ownNew j p hj e
    rw [upd_same] at z; cases z
/-- an object of our own is written -/
theorem Rep.mut (R : Rep C N σ H B g) {p : Addr} {o : HO} (hB : B p = none) (h0 : N.H0 p = none) (hs : ∀ j : Nat, ownAt g.sl j → σ[j]? ≠ some (some (.ref p))) : Rep C N σ (upd H p o) B g where
  len := R.len
  slots := fun i s e => by
    have q := R.slots i s e
    have ne : ∀ a, σ[i]?.getD none = some (.ref a) → s.isOwn = true → a ≠ p := fun a h h2 z => hs i ⟨s, e, h2⟩ (by rw [← z]; exact getD_some h)
    cases s with
    | no => trivial
    | dat d => exact q
    | raw v => exact q
    | sta => exact q
    | own xs => obtain ⟨a, vs, e1, n, h, r⟩ := q; exact ⟨a, vs, e1, n, by rw [upd_ne (ne a e1 rfl)]; exact h, r⟩
    | ownT xs => obtain ⟨a, vs, e1, n, h, r⟩ := q; exact ⟨a, vs, e1, n, by rw [upd_ne (ne a e1 rfl)]; exact h, r⟩
    | ownK xs => obtain ⟨a, vs, e1, n, h, r⟩ := q; exact ⟨a, vs, e1, n, by rw [upd_ne (ne a e1 rfl)]; exact h, r⟩
  sep := R.sep
  sub := fun a u q => by
    have : a ≠ p := fun e => by rw [e, hB] at q; cases q
    rw [upd_ne this]; exact R.sub a u q
  up := R.up
  new := R.new
  ownNew := R.ownNew
  keep := fun a u q hc => by
    have : a ≠ p := fun e => by rw [e, h0] at q; cases q
    rw [upd_ne this]; exact R.keep a u q hc
  st := fun c hc => by
    obtain ⟨a, b, d, e⟩ := R.st c hc
    exact ⟨a, by rw [upd_ne (R.stne hc h0)]; exact b, d, e⟩
theorem Rep.b0 (R : Rep C N σ H B g) {p : Addr} (hB : B p = none) : N.B0 p = none := by
  cases e : N.B0 p with
  | none => rfl
  | some o => rw [R.up p o e] at hB; cases hB
end

/-! ### list comprehensions -/
section
variable {C : Ctx}
def afterM {α : Type} (is : List Nat) (f : M α) : M α := fun g => f (g.forget is)
def pushM (acc : List D) (y : D) (f : List D → M (List D)) : M (List D) := if acc.length < sizeLine then f (acc ++ [y]) else fun _ => .bad
/-- what is raised within is out of what we say -/
def calmR {α : Type} (r : Res α) : Res α := match r with
  | .exc _ _ => .bad
  | r => r
def calmM {α : Type} (f : M α) : M α := fun g => calmR (f g)
def lcLoop (k : D → M Unit) (c : M Bool) (e : M D) (vs : List Nat) : List D → List D → M (List D)
  | [], acc => afterM vs (pureM acc)
  | x :: r, acc => goG (k x) (bindM (calmM c) fun b => if b = true then (bindM (calmM e) fun y => pushM acc y fun acc' => afterM vs (lcLoop k c e vs r acc')) else afterM vs (lcLoop k c e vs r acc))
def lcM (src : M (List D)) (k : D → M Unit) (c : M Bool) (e : M D) (vs : List Nat) : M (List D) := bindM src fun xs => afterM vs (lcLoop k c e vs xs [])
theorem Rep.wipe {N : An} {σ : St} {H B : Hp} {g : Sg} (R : Rep C N σ H B g) (vs : List Nat) : Rep C N (L2.wipe σ vs) H B (g.forget vs) := R.other vs (wipe_length σ vs) fun j hj => wipe_off hj
/-- a part of a turn, while the new list stands -/
theorem Sat.turn {t : TE} {f : M D} (h : Sat C.q t f) {N : An} {σ : St} {H B : Hp} {g : Sg} {p : Addr} {o : HO} (R : Rep C N σ H B g) (hH : H p = some o) (hB : B p = none) (h0 : N.H0 p = none) (hs : ∀ j : Nat, ownAt g.sl j → σ[j]? ≠ some (some (.ref p)))
    {β : Type} {k : D → M β} {P : Res β → Prop} (hb : ¬ P .bad) {Q : VK} (hf : P (bindM (calmM f) k g))
    (hk : ∀ d g' v H' B', Rep C N σ H' B' g' → Le B B' → Rp C.K B' v d → H' p = some o → B' p = none → (∀ j : Nat, ownAt g'.sl j → σ[j]? ≠ some (some (.ref p))) → P (k d g') → Q v H') : t σ H Q := by
  refine h ⟨upd N.H0 p o, N.B0⟩ σ H B g Q ((R.anchor hH hB h0 hs).chE _) ?_
  have hf : P ((calmR (f g)).bind k) := hf
  cases e : f g with
  | ok d g' =>
    rw [e] at hf
    intro v H' B' R' L rp
    obtain ⟨R2, e1, e2, e3⟩ := R'.unE.unanchor h0 (R.b0 hB) fun c hc => R.stne hc h0
    exact hk d g' v H' B' R2 L rp e1 e2 e3 hf
  | exc n ct => rw [e] at hf; exact (hb hf).elim
  | bad => rw [e] at hf; exact (hb hf).elim
theorem SatT.turn {t : TT} {f : M Bool} (h : SatT C.q t f) {N : An} {σ : St} {H B : Hp} {g : Sg} {p : Addr} {o : HO} (R : Rep C N σ H B g) (hH : H p = some o) (hB : B p = none) (h0 : N.H0 p = none) (hs : ∀ j : Nat, ownAt g.sl j → σ[j]? ≠ some (some (.ref p)))
    {β : Type} {k : Bool → M β} {P : Res β → Prop} (hb : ¬ P .bad) {Q : Bool → Hp → Prop} (hf : P (bindM (calmM f) k g))
    (hk : ∀ d g' H' B', Rep C N σ H' B' g' → Le B B' → H' p = some o → B' p = none → (∀ j : Nat, ownAt g'.sl j → σ[j]? ≠ some (some (.ref p))) → P (k d g') → Q d H') : t σ H Q := by
  refine h ⟨upd N.H0 p o, N.B0⟩ σ H B g Q ((R.anchor hH hB h0 hs).chE _) ?_
  have hf : P ((calmR (f g)).bind k) := hf
  cases e : f g with
  | ok d g' =>
    rw [e] at hf
    intro H' B' R' L
    obtain ⟨R2, e1, e2, e3⟩ := R'.unE.unanchor h0 (R.b0 hB) fun c hc => R.stne hc h0
    exact hk d g' H' B' R2 L e1 e2 e3 hf
  | exc n ct => rw [e] at hf; exact (hb hf).elim
  | bad => rw [e] at hf; exact (hb hf).elim
theorem SatG.turn {ts : List Nat} {tg : TG} {k : D → M Unit} (h : SatG C.q ts tg k) {N : An} {v : V} {d : D} {σ : St} {H B : Hp} {g : Sg} {p : Addr} {o : HO} (R : Rep C N σ H B g) (rp : Rp C.K B v d) (hH : H p = some o) (hB : B p = none) (h0 : N.H0 p = none) (hs : ∀ j : Nat, ownAt g.sl j → σ[j]? ≠ some (some (.ref p)))
    {β : Type} {f : M β} {P : Res β → Prop} (hb : ¬ P .bad) {Q : St → Hp → Prop} (hf : P (goG (k d) f g))
    (hk : ∀ g' σ' H' B', Rep C N σ' H' B' g' → Le B B' → σ'.length = σ.length → (∀ j, j ∉ ts → σ'[j]? = σ[j]?) → H' p = some o → B' p = none → (∀ j : Nat, ownAt g'.sl j → σ'[j]? ≠ some (some (.ref p))) → P (f g') → Q σ' H') : tg v σ H Q := by
  refine h ⟨upd N.H0 p o, N.B0⟩ v σ H B g d _ ((R.anchor hH hB h0 hs).chE _) rp ?_
  unfold goG at hf
  cases e : k d g with
  | ok x g' =>
    rw [e] at hf
    intro σ' H' B' R' L l1 l2
    obtain ⟨R2, e1, e2, e3⟩ := R'.unE.unanchor h0 (R.b0 hB) fun c hc => R.stne hc h0
    exact hk g' σ' H' B' R2 L l1 l2 e1 e2 e3 hf
  | exc n ct => rw [e] at hf; exact (hb hf).elim
  | bad => rw [e] at hf; exact (hb hf).elim
/-- a comprehension's state between two turns, the new list at p -/
structure LcS (C : Ctx) (N : An) (τ : St) (p : Addr) (B1 : Hp) (H B : Hp) (g : Sg) (acc : List D) : Prop where
  rep : Rep C N τ H B g
  le : Le B1 B
  own : ∀ j : Nat, ownAt g.sl j → τ[j]? ≠ some (some (.ref p))
  no : B p = none
  lst : ∃ av, H p = some (.lst av) ∧ Rps C.K B av acc
theorem LcS.back {N : An} {τ σ' : St} {p : Addr} {B1 H B : Hp} {g : Sg} {acc : List D} (h : LcS C N τ p B1 H B g acc) (vs : List Nat) (hl : σ'.length = τ.length) (he : ∀ j : Nat, j ∉ vs → σ'[j]? = τ[j]?) : LcS C N σ' p B1 H B (g.forget vs) acc :=
  ⟨h.rep.other vs hl he, h.le, fun j hj => by
    obtain ⟨a, b⟩ := ownAt_forget hj
    rw [he j a]; exact h.own j b, h.no, h.lst⟩
theorem LcS.fin {N : An} {τ σ : St} {p : Addr} {B1 H B B0 : Hp} {g : Sg} {acc : List D} {vs : List Nat} {Q : VK} (h : LcS C N τ p B1 H B g acc) (hl : σ.length = τ.length) (he : ∀ j : Nat, j ∉ vs → σ[j]? = τ[j]?) (h0 : N.H0 p = none) (L : Le B0 B1)
    (q : FinF C N σ B0 (afterM vs (pureM acc) g) Q) : Q (.ref p) H := by
  obtain ⟨R, L', o, n, av, hH, rp⟩ := h.back vs hl he
  exact q p av H B R (L.trans L') n hH rp h0 o
theorem LcS.push {N : An} {τ : St} {p : Addr} {B1 H B : Hp} {g : Sg} {acc : List D} {av : List V} {y : V} {d : D} (R : Rep C N τ H B g) (L : Le B1 B) (o : ∀ j : Nat, ownAt g.sl j → τ[j]? ≠ some (some (.ref p))) (n : B p = none) (h0 : N.H0 p = none) (ra : Rps C.K B av acc) (ry : Rp C.K B y d) :
    LcS C N τ p B1 (upd H p (.lst (av ++ [y]))) B g (acc ++ [d]) :=
  ⟨R.mut n h0 o, L, o, n, _, upd_same, ra.append (.one ry)⟩
theorem satF_lc {wi : TI} {tg : TG} {tt : TT} {te : TE} {vs ts : List Nat} {src : M (List D)} {k : D → M Unit} {c : M Bool} {e : M D} (hs : SatI C wi src) (hg : SatG C.q ts tg k) (hc : SatT C.q tt c) (he : Sat C.q te e) (hv : ∀ j, j ∈ ts → j ∈ vs) :
    SatF C (tLc wi tg tt te vs) (lcM src k c e vs) := by
  intro N σ H B g Q R q
  refine hs N σ H B g _ R ?_
  have q : FinF C N σ B ((src g).bind fun xs => afterM vs (lcLoop k c e vs xs [])) Q := q
  cases es : src g with
  | exc n ct => rw [es] at q; exact q
  | bad => rw [es] at q; exact q.elim
  | ok xs g1 =>
    rw [es] at q
    intro J H1 B1 R1 L1 W p hp
    have h0 : N.H0 p = none := R1.fresh hp
    have wl : (wipe σ vs).length = σ.length := wipe_length σ vs
    have S0 : LcS C N (wipe σ vs) p B1 (upd H1 p (.lst [])) B1 (g1.forget vs) [] := by
      have R2 := (R1.newl (o := .lst []) hp).wipe vs
      refine ⟨R2, .refl _, fun j hj => ?_, R1.sub_none hp, [], upd_same, .nil⟩
      obtain ⟨a, b⟩ := ownAt_forget hj
      rw [wipe_off a]; exact R1.free_own hp j b
    refine ⟨fun i m H' => ∃ B' g' acc, i ≤ xs.length ∧ m = xs.length - i ∧ LcS C N (wipe σ vs) p B1 H' B' g' acc ∧ FinF C N σ B (lcLoop k c e vs (xs.drop i) acc g') Q, ⟨xs.length, B1, g1.forget vs, [], Nat.zero_le _, rfl, S0, q⟩, ?_⟩
    rintro i m H2 ⟨B2, g2, acc, hi, rfl, S, q2⟩
    obtain ⟨R2, L2, o2, n2, av, hH2, ra⟩ := id S
    by_cases hlt : i < xs.length
    · have hd : xs.drop i = xs[i] :: xs.drop (i + 1) := List.drop_eq_getElem_cons hlt
      rw [hd] at q2
      refine .inr ⟨W.go i H2 hlt (fun a o z => R2.sub a o (L2 a o z)), fun H' => ∃ B' g' acc, LcS C N (wipe σ vs) p B1 H' B' g' acc ∧ FinF C N σ B (lcLoop k c e vs (xs.drop (i + 1)) acc g') Q, fun H' ⟨B', g', acc', z1, z2⟩ => ⟨_, Nat.sub_lt_sub_left hlt (Nat.lt_succ_self i), B', g', acc', hlt, rfl, z1, z2⟩, fun x H3 y => ?_⟩
      obtain ⟨B3, G, rp⟩ := W.yld i H2 x H3 B2 xs[i] y (by simp [hlt]) L2 R2.sub
      have R3 := R2.grow G
      have hH3 : H3 p = some (.lst av) := G.h _ _ hH2
      have n3 : B3 p = none := G.apart n2 hH2
      refine hg.turn (P := fun x => FinF C N σ B x Q) R3 rp hH3 n3 h0 o2 (fun z => z) q2 fun g4 σ4 H4 B4 R4 L4 l4 e4 hH4 n4 o4 q4 => ?_
      have off : ∀ j : Nat, j ∉ vs → σ4[j]? = σ[j]? := fun j hj => (e4 j fun z => hj (hv j z)).trans (wipe_off hj)
      have len4 : σ4.length = σ.length := l4.trans wl
      refine ⟨wipe_eq vs len4 off, ?_⟩
      have off' : ∀ j : Nat, j ∉ vs → (wipe σ vs)[j]? = σ4[j]? := fun j hj => (wipe_off hj).trans (off j hj).symm
      have len4' : (wipe σ vs).length = σ4.length := wl.trans len4.symm
      refine hc.turn (P := fun x => FinF C N σ B x Q) R4 hH4 n4 h0 o4 (fun z => z) q4 fun b g5 H5 B5 R5 L5 hH5 n5 o5 q5 => ?_
      have LL : Le B2 B5 := (G.b.trans L4).trans L5
      cases b with
      | false =>
        exact ⟨B5, _, acc, (LcS.mk R5 (L2.trans LL) o5 n5 ⟨av, hH5, ra.le LL⟩).back vs len4' off', q5⟩
      | true =>
        refine he.turn (P := fun x => FinF C N σ B x Q) R5 hH5 n5 h0 o5 (fun z => z) q5 fun d g6 v H6 B6 R6 L6 rp6 hH6 n6 o6 q6 => ?_
        unfold pushM at q6
        by_cases hz : acc.length < sizeLine
        · rw [if_pos hz] at q6
          refine ⟨av, hH6, by rw [ra.length]; exact hz, B6, _, acc ++ [d], ?_, q6⟩
          exact (LcS.push R6 ((L2.trans LL).trans L6) o6 n6 h0 (ra.le (LL.trans L6)) rp6).back vs len4' off'
        · rw [if_neg hz] at q6; exact q6.elim
    · have hi' : i = xs.length := by omega
      subst hi'
      rw [List.drop_length] at q2
      exact .inl ⟨W.stop H2 (fun a o z => R2.sub a o (L2 a o z)), S.fin wl.symm (fun j hj => (wipe_off hj).symm) h0 L1 q2⟩
/-! ### .. with two walks -/
def lcIn (k1 : D → M Unit) (c1 : M Bool) (e : M D) (vs1 : List Nat) (next : List D → M (List D)) : List D → List D → M (List D)
  | [], acc => next acc
  | x :: r, acc => goG (k1 x) (bindM (calmM c1) fun b => if b = true then (bindM (calmM e) fun y => pushM acc y fun acc' => afterM vs1 (lcIn k1 c1 e vs1 next r acc')) else afterM vs1 (lcIn k1 c1 e vs1 next r acc))
def lc2Loop (k : D → M Unit) (c : M Bool) (src1 : M (List D)) (k1 : D → M Unit) (c1 : M Bool) (e : M D) (vs vs1 : List Nat) : List D → List D → M (List D)
  | [], acc => afterM vs (pureM acc)
  | x :: r, acc => goG (k x) (bindM (calmM c) fun b => if b = true then (bindM (calmM src1) fun ys => afterM vs1 (lcIn k1 c1 e vs1 (fun acc' => afterM vs (lc2Loop k c src1 k1 c1 e vs vs1 r acc')) ys acc)) else afterM vs (lc2Loop k c src1 k1 c1 e vs vs1 r acc))
def lc2M (src : M (List D)) (k : D → M Unit) (c : M Bool) (src1 : M (List D)) (k1 : D → M Unit) (c1 : M Bool) (e : M D) (vs vs1 : List Nat) : M (List D) := bindM src fun xs => afterM vs (lc2Loop k c src1 k1 c1 e vs vs1 xs [])
theorem SatI.turn {t : TI} {f : M (List D)} (h : SatI C.q t f) {N : An} {σ : St} {H B : Hp} {g : Sg} {p : Addr} {o : HO} (R : Rep C N σ H B g) (hH : H p = some o) (hB : B p = none) (h0 : N.H0 p = none) (hs : ∀ j : Nat, ownAt g.sl j → σ[j]? ≠ some (some (.ref p)))
    {β : Type} {k : List D → M β} {P : Res β → Prop} (hb : ¬ P .bad) {Q : It → Hp → Prop} (hf : P (bindM (calmM f) k g))
    (hk : ∀ xs g' J H' B', Rep C N σ H' B' g' → Le B B' → Walk C J B' xs → H' p = some o → B' p = none → (∀ j : Nat, ownAt g'.sl j → σ[j]? ≠ some (some (.ref p))) → P (k xs g') → Q J H') : t σ H Q := by
  refine h ⟨upd N.H0 p o, N.B0⟩ σ H B g Q ((R.anchor hH hB h0 hs).chE _) ?_
  have hf : P ((calmR (f g)).bind k) := hf
  cases e : f g with
  | ok d g' =>
    rw [e] at hf
    intro J H' B' R' L W
    obtain ⟨R2, e1, e2, e3⟩ := R'.unE.unanchor h0 (R.b0 hB) fun c hc => R.stne hc h0
    exact hk d g' J H' B' R2 L ⟨W.go, W.stop, W.yld⟩ e1 e2 e3 hf
  | exc n ct => rw [e] at hf; exact (hb hf).elim
  | bad => rw [e] at hf; exact (hb hf).elim
theorem satF_lc2 {wi wi1 : TI} {tg tg1 : TG} {tt tt1 : TT} {te : TE} {vs ts vs1 ts1 : List Nat} {src src1 : M (List D)} {k k1 : D → M Unit} {c c1 : M Bool} {e : M D} (hs : SatI C wi src) (hg : SatG C.q ts tg k) (hc : SatT C.q tt c) (hs1 : SatI C.q wi1 src1) (hg1 : SatG C.q ts1 tg1 k1) (hc1 : SatT C.q tt1 c1) (he : Sat C.q te e)
    (hv : ∀ j, j ∈ ts → j ∈ vs) (hv1 : ∀ j, j ∈ ts1 → j ∈ vs1) (hvv : ∀ j, j ∈ vs1 → j ∈ vs) :
    SatF C (tLc2 wi tg tt wi1 tg1 tt1 te vs vs1) (lc2M src k c src1 k1 c1 e vs vs1) := by
  intro N σ H B g Q R q
  refine hs N σ H B g _ R ?_
  have q : FinF C N σ B ((src g).bind fun xs => afterM vs (lc2Loop k c src1 k1 c1 e vs vs1 xs [])) Q := q
  cases es : src g with
  | exc n ct => rw [es] at q; exact q
  | bad => rw [es] at q; exact q.elim
  | ok xs g1 =>
    rw [es] at q
    intro J H1 B1 R1 L1 W p hp
    have h0 : N.H0 p = none := R1.fresh hp
    have wl : (wipe σ vs).length = σ.length := wipe_length σ vs
    have S0 : LcS C N (wipe σ vs) p B1 (upd H1 p (.lst [])) B1 (g1.forget vs) [] := by
      have R2 := (R1.newl (o := .lst []) hp).wipe vs
      refine ⟨R2, .refl _, fun j hj => ?_, R1.sub_none hp, [], upd_same, .nil⟩
      obtain ⟨a, b⟩ := ownAt_forget hj
      rw [wipe_off a]; exact R1.free_own hp j b
    refine ⟨fun i m H' => ∃ B' g' acc, i ≤ xs.length ∧ m = xs.length - i ∧ LcS C N (wipe σ vs) p B1 H' B' g' acc ∧ FinF C N σ B (lc2Loop k c src1 k1 c1 e vs vs1 (xs.drop i) acc g') Q, ⟨xs.length, B1, g1.forget vs, [], Nat.zero_le _, rfl, S0, q⟩, ?_⟩
    rintro i m H2 ⟨B2, g2, acc, hi, rfl, S, q2⟩
    obtain ⟨R2, L2, o2, n2, av, hH2, ra⟩ := id S
    by_cases hlt : i < xs.length
    · have hd : xs.drop i = xs[i] :: xs.drop (i + 1) := List.drop_eq_getElem_cons hlt
      rw [hd] at q2
      generalize hnext : (fun acc' => afterM vs (lc2Loop k c src1 k1 c1 e vs vs1 (xs.drop (i + 1)) acc')) = next at q2
      refine .inr ⟨W.go i H2 hlt (fun a o z => R2.sub a o (L2 a o z)), fun H' => ∃ B' g' acc, LcS C N (wipe σ vs) p B1 H' B' (g'.forget vs) acc ∧ FinF C N σ B (next acc g') Q, fun H' ⟨B', g', acc', z1, z2⟩ => ⟨_, Nat.sub_lt_sub_left hlt (Nat.lt_succ_self i), B', g'.forget vs, acc', hlt, rfl, z1, by rw [← hnext] at z2; exact z2⟩, fun x H3 y => ?_⟩
      obtain ⟨B3, G, rp⟩ := W.yld i H2 x H3 B2 xs[i] y (by simp [hlt]) L2 R2.sub
      have R3 := R2.grow G
      have hH3 : H3 p = some (.lst av) := G.h _ _ hH2
      have n3 : B3 p = none := G.apart n2 hH2
      have q2 : FinF C N σ B (goG (k xs[i]) (bindM (calmM c) fun b => if b = true then (bindM (calmM src1) fun ys => afterM vs1 (lcIn k1 c1 e vs1 next ys acc)) else next acc) g2) Q := by
        rw [← hnext]; exact q2
      refine hg.turn (P := fun x => FinF C N σ B x Q) R3 rp hH3 n3 h0 o2 (fun z => z) q2 fun g4 σ4 H4 B4 R4 L4 l4 e4 hH4 n4 o4 q4 => ?_
      have off : ∀ j : Nat, j ∉ vs → σ4[j]? = σ[j]? := fun j hj => (e4 j fun z => hj (hv j z)).trans (wipe_off hj)
      have len4 : σ4.length = σ.length := l4.trans wl
      refine ⟨wipe_eq vs len4 off, ?_⟩
      have off' : ∀ j : Nat, j ∉ vs → (wipe σ vs)[j]? = σ4[j]? := fun j hj => (wipe_off hj).trans (off j hj).symm
      have len4' : (wipe σ vs).length = σ4.length := wl.trans len4.symm
      refine hc.turn (P := fun x => FinF C N σ B x Q) R4 hH4 n4 h0 o4 (fun z => z) q4 fun b g5 H5 B5 R5 L5 hH5 n5 o5 q5 => ?_
      have LL : Le B2 B5 := (G.b.trans L4).trans L5
      cases b with
      | false =>
        exact ⟨B5, g5, acc, (LcS.mk R5 (L2.trans LL) o5 n5 ⟨av, hH5, ra.le LL⟩).back vs len4' off', q5⟩
      | true =>
        refine hs1.turn (P := fun x => FinF C N σ B x Q) R5 hH5 n5 h0 o5 (fun z => z) q5 fun ys g6 J1 H6 B6 R6 L6 W1 hH6 n6 o6 q6 => ?_
        have L16 : Le B1 B6 := (L2.trans LL).trans L6
        have wl1 : (wipe σ4 vs1).length = σ4.length := wipe_length σ4 vs1
        have S6 : LcS C N (wipe σ4 vs1) p B1 H6 B6 (g6.forget vs1) acc := (LcS.mk R6 L16 o6 n6 ⟨av, hH6, ra.le (LL.trans L6)⟩).back vs1 wl1 fun j hj => wipe_off hj
        refine ⟨fun j m H' => ∃ B' g' acc, j ≤ ys.length ∧ m = ys.length - j ∧ LcS C N (wipe σ4 vs1) p B1 H' B' g' acc ∧ Le B6 B' ∧ FinF C N σ B (lcIn k1 c1 e vs1 next (ys.drop j) acc g') Q, ⟨ys.length, B6, g6.forget vs1, acc, Nat.zero_le _, rfl, S6, .refl _, q6⟩, ?_⟩
        rintro j m H7 ⟨B7, g7, acc7, hj, rfl, S7, L67, q7⟩
        obtain ⟨R7, L7, o7, n7, av7, hH7, ra7⟩ := id S7
        by_cases hlt7 : j < ys.length
        · have hd7 : ys.drop j = ys[j] :: ys.drop (j + 1) := List.drop_eq_getElem_cons hlt7
          rw [hd7] at q7
          refine .inr ⟨W1.go j H7 hlt7 (fun a o z => R7.sub a o (L67 a o z)), fun H' => ∃ B' g' acc, LcS C N (wipe σ4 vs1) p B1 H' B' g' acc ∧ Le B6 B' ∧ FinF C N σ B (lcIn k1 c1 e vs1 next (ys.drop (j + 1)) acc g') Q, fun H' ⟨B', g', acc', z1, z2, z3⟩ => ⟨_, Nat.sub_lt_sub_left hlt7 (Nat.lt_succ_self j), B', g', acc', hlt7, rfl, z1, z2, z3⟩, fun x8 H8 y8 => ?_⟩
          obtain ⟨B8, G8, rp8⟩ := W1.yld j H7 x8 H8 B7 ys[j] y8 (by simp [hlt7]) L67 R7.sub
          have R8 := R7.grow G8
          have hH8 : H8 p = some (.lst av7) := G8.h _ _ hH7
          have n8 : B8 p = none := G8.apart n7 hH7
          refine hg1.turn (P := fun x => FinF C N σ B x Q) R8 rp8 hH8 n8 h0 o7 (fun z => z) q7 fun g9 σ9 H9 B9 R9 L9 l9 e9 hH9 n9 o9 q9 => ?_
          have off9 : ∀ j : Nat, j ∉ vs1 → σ9[j]? = σ4[j]? := fun j hj => (e9 j fun z => hj (hv1 j z)).trans (wipe_off hj)
          have len9 : σ9.length = σ4.length := l9.trans wl1
          refine ⟨wipe_eq vs1 len9 off9, ?_⟩
          have off9' : ∀ j : Nat, j ∉ vs1 → (wipe σ4 vs1)[j]? = σ9[j]? := fun j hj => (wipe_off hj).trans (off9 j hj).symm
          have len9' : (wipe σ4 vs1).length = σ9.length := wl1.trans len9.symm
          refine hc1.turn (P := fun x => FinF C N σ B x Q) R9 hH9 n9 h0 o9 (fun z => z) q9 fun b ga Ha Ba Ra La hHa na oa qa => ?_
          have L7a : Le B7 Ba := (G8.b.trans L9).trans La
          cases b with
          | false =>
            exact ⟨Ba, _, acc7, (LcS.mk Ra (L7.trans L7a) oa na ⟨av7, hHa, ra7.le L7a⟩).back vs1 len9' off9', L67.trans L7a, qa⟩
          | true =>
            refine he.turn (P := fun x => FinF C N σ B x Q) Ra hHa na h0 oa (fun z => z) qa fun d gb v Hb Bb Rb Lb rpb hHb nb ob qb => ?_
            unfold pushM at qb
            by_cases hz : acc7.length < sizeLine
            · rw [if_pos hz] at qb
              refine ⟨av7, hHb, by rw [ra7.length]; exact hz, Bb, _, acc7 ++ [d], ?_, (L67.trans L7a).trans Lb, qb⟩
              exact (LcS.push Rb ((L7.trans L7a).trans Lb) ob nb h0 (ra7.le (L7a.trans Lb)) rpb).back vs1 len9' off9'
            · rw [if_neg hz] at qb; exact qb.elim
        · have hj' : j = ys.length := by omega
          subst hj'
          rw [List.drop_length] at q7
          refine .inl ⟨W1.stop H7 (fun a o z => R7.sub a o (L67 a o z)), B7, g7, acc7, S7.back vs ?_ ?_, q7⟩
          · rw [wl1, len4']
          · intro j hj
            rw [wipe_off (σ := σ4) (fun z => hj (hvv j z))]; exact off' j hj
    · have hi' : i = xs.length := by omega
      subst hi'
      rw [List.drop_length] at q2
      exact .inl ⟨W.stop H2 (fun a o z => R2.sub a o (L2 a o z)), S.fin wl.symm (fun j hj => (wipe_off hj).symm) h0 L1 q2⟩
end
end DL

set_option Elab.async false
set_option linter.all false
set_option maxRecDepth 100000
set_option maxHeartbeats 4000000
/-! DL5: what is walked: lists and tuples and texts, range, enumerate and zip of lists and tuples in any mix -/
namespace PySem
open Sem (wp)
open AutoSeq1 (wpAny_loadPart')
set_option maxHeartbeats 1000000 in
theorem meets_enumerate_newB1 {v : Value} {o : Obj} {H : Heap → Prop} (B : Begins v o H) :
    Meets (Builtin.«enumerate.__new__» ⟨[.type "enumerate", v], []⟩) (fun _ R s => H s.heap ∧
      R (.ok (.ret (.ref (s.heap.push o).objs.size))) { s with heap := (s.heap.push o).push { cls := .type "enumerate", data := .fields #[.none, .bool false, .ref s.heap.objs.size, rawInt 0, .none, .none] } }) :=
  .of_wp fun prog w A R s h => by
    obtain ⟨hp, g, d, tk, os⟩ := s; obtain ⟨h1, h⟩ := h
    have hsub := sub_enumerate
    have q1 : ∀ {A' : Around} {E : Value → Shared → Prop} {Q : Value → Shared → Prop}, Q (.ref hp.objs.size) ⟨hp.push o, g, d, tk, os⟩ → wpAny (model prog w) A' (pyIter v) Q E ⟨hp, g, d, tk, os⟩ :=
      fun q => B.iter prog w _ _ ⟨hp, g, d, tk, os⟩ _ h1 q
    wp_walk using q1
    refine wpAny_stack_any fun st => wpAny_pure ?_
    split
    · rename_i c _ _ _ _ _
      cases (c == Value.type "enumerate")
      · wp_walk using q1
        exact ⟨_, rfl, h⟩
      · wp_walk using q1
        exact ⟨_, rfl, h⟩
    · wp_walk using q1
      exact ⟨_, rfl, h⟩
section
variable {prog : Program} {w : World} {A : Around} {E : Value → Shared → Prop} {s : Shared}
theorem enum_begins1 {v : Value} {o : Obj} {H : Heap → Prop} {Q : Value → Shared → Prop} (B : Begins v o H) (h1 : H s.heap)
    (h : ∀ h', IsEnum h' (s.heap.objs.size + 1) s.heap.objs.size 0 .none → h'.get? s.heap.objs.size = some o → h'.objs.size = s.heap.objs.size + 2 →
      (∀ b o, s.heap.get? b = some o → h'.get? b = some o) → Q (.ref (s.heap.objs.size + 1)) { s with heap := h' }) :
    wpAny (model prog w) A (call (.type "enumerate") [v]) Q E s := by
  refine callType_new F.called_enumerate (by decide) (F.typeCall_enumerate_1 _) (F.newCall_enumerate_1 _) (fun obj => F.args_object_init_2 obj _) F.entry_enumerate_new
    (meets_enumerate_newB1 B) ⟨h1, ?_⟩
  have hz : (s.heap.push o).objs.size = s.heap.objs.size + 1 := Heap.size_push ..
  show _ ∧ _
  rw [hz]
  have he : IsEnum ((s.heap.push o).push { cls := .type "enumerate", data := .fields #[.none, .bool false, .ref s.heap.objs.size, rawInt 0, .none, .none] }) (s.heap.objs.size + 1) s.heap.objs.size 0 .none := by
    have := Heap.get?_push_size (s.heap.push o) (o := { cls := .type "enumerate", data := .fields #[.none, .bool false, .ref s.heap.objs.size, rawInt 0, .none, .none] }) rfl
    rw [hz] at this; exact this
  refine ⟨⟨_, he, rfl⟩, h _ he (Heap.get?_push_of_some _ (Heap.get?_push_size _ B.free)) (by rw [Heap.size_push, hz]) fun b o x => Heap.get?_push_of_some _ (Heap.get?_push_of_some _ x)⟩
end
end PySem

namespace DL
open PySem PySem.Spec L2
open PyProof.Rows hiding St

/-! ### a list or a tuple as a source -/
inductive Sq where
  | L (a : Addr)
  | T (a : Addr)
def Sq.a : Sq → Addr
  | .L a => a
  | .T a => a
def Sq.st (K : PySem.W.Frag) (H : Hp) : Sq → List V → Prop
  | .L a, xs => SqL K H a xs
  | .T a, xs => SqT K H a xs
def Sq.iter (h : Heap) (it : Addr) (i : Nat) : Sq → Prop
  | .L a => h.IsListIter it a i
  | .T a => h.IsTupleIter it a i
def Sq.raw (h : Heap) (items : Array Value) : Sq → Prop
  | .L a => h.IsList a items
  | .T a => h.IsTuple a items
def Sq.itO : Sq → Obj
  | .L a => { cls := .type "list_iterator", data := .fields #[.ref a, .int 0 0] }
  | .T a => { cls := .type "tuple_iterator", data := .fields #[.ref a, .int 0 0] }
theorem Sq.at {q : Sq} {h h' : Heap} {it : Addr} {i : Nat} (x : q.iter h it i) (k : ∀ o, h.get? it = some o → h'.get? it = some o) : q.iter h' it i := by
  cases q with
  | L a => exact Heap.IsListIter.at x k
  | T a => exact Heap.IsTupleIter.at x k
theorem Sq.there {q : Sq} {h : Heap} {it : Addr} {i : Nat} (x : q.iter h it i) : ∃ o, h.get? it = some o ∧ ∀ v, o.data ≠ .cell v := by
  cases q with
  | L a => obtain ⟨o, e, _, d⟩ := x; exact ⟨o, e, fun v z => by rw [d] at z; cases z⟩
  | T a => obtain ⟨o, e, _, d⟩ := x; exact ⟨o, e, fun v z => by rw [d] at z; cases z⟩
theorem Sq.draws {P : Program} {w : World} {A : Around} (hh : A.handled = none) (q : Sq) (it : Addr) (hne : q.a ≠ it) (items : Array Value) :
    Draws P w A it [it, q.a] items.size (fun i v => items[i]? = some v) (fun i h => q.iter h it i ∧ q.raw h items) := by
  cases q with
  | L a => exact Draws.list hh it a hne items
  | T a => exact Draws.tuple hh it a hne items
theorem Sq.get {X : Cx} {pins : List (Addr × Obj)} {σ : St} {H : Hp} {s : Shared} (I : Inv X pins σ H s) {q : Sq} {xs : List V} (h : q.st X.K H xs) : ∃ its : List Value, Vals xs its ∧ q.raw s.heap its.toArray ∧ q.a < s.heap.objs.size := by
  cases q with
  | L a =>
    obtain ⟨its, rv, p, _⟩ := I.list h
    exact ⟨its, rv, p.isList, p.lt⟩
  | T a =>
    obtain ⟨its, rv, p, _⟩ := I.tuple h
    exact ⟨its, rv, p, p.lt⟩
theorem Sq.inj {X : Cx} {pins : List (Addr × Obj)} {σ : St} {H : Hp} {s : Shared} (I : Inv X pins σ H s) {q : Sq} {xs ys : List V} (h : q.st X.K H xs) (h' : q.st X.K H ys) : xs = ys := by
  cases q with
  | L a => exact I.list_inj h h'
  | T a => exact I.tuple_inj h h'
theorem Sq.begins (q : Sq) (items : Array Value) : Begins (.ref q.a) q.itO fun h => q.raw h items := by
  cases q with
  | L a => exact begins_list a items
  | T a => exact begins_tuple a items
theorem Sq.iter0 {q : Sq} {h : Heap} {it : Addr} (e : h.get? it = some q.itO) : q.iter h it 0 := by
  cases q with
  | L a => exact ⟨_, e, rfl, rfl⟩
  | T a => exact ⟨_, e, rfl, rfl⟩
theorem Sq.le {K : PySem.W.Frag} {B H : Hp} (L : Le B H) {q : Sq} {xs : List V} (h : q.st K B xs) : q.st K H xs := by
  cases q with
  | L a => exact L.sqL h
  | T a => exact L.sqT h

/-! ### enumerate -/
def ItE (K : PySem.W.Frag) (q : Sq) : It :=
  ⟨fun i H => ∃ (xs : List V) (x : V), q.st K H xs ∧ xs[i]? = some x, fun i H v H' => ∃ T x, v = .ref T ∧ H T = none ∧ H' = upd H T (.tup [.int (i : Nat), x]) ∧ ∀ xs, q.st K H xs → xs[i]? = some x, fun i H => ∃ xs : List V, q.st K H xs ∧ xs.length = i⟩
theorem turn_enumX {P : Program} {w : World} {K : PySem.W.Frag} {elts : List Expr} {kk : Nat} {tpos : Pos} (q : Sq) (e it : Addr) (h1 : e ≠ it) (h2 : e ≠ q.a) (h3 : q.a ≠ it) :
    Turn P w K (.Tuple elts kk tpos) (ItE K q) [e, it] e (fun i h => (∃ old, IsEnum h e it (0 + ((i : Nat) : Int)) old) ∧ q.iter h it i) where
  mem := by simp
  obj := fun i h st b hb => by
    obtain ⟨⟨old, he⟩, hi⟩ := st
    have e' : b = e ∨ b = it := by simpa using hb
    rcases e' with z | z
    · rw [z]; exact ⟨_, he, fun v q => nomatch q⟩
    · rw [z]; exact Sq.there hi
  keep := fun i h h' st k => let ⟨⟨old, he⟩, hi⟩ := st; ⟨⟨old, k e (by simp) _ he⟩, Sq.at hi fun o q => k it (by simp) o q⟩
  item := by
    intro X hP hw hK hc i pins s σ H E I hf st hg
    subst hP hw hK
    obtain ⟨⟨old, he⟩, hit⟩ := st
    obtain ⟨xs, x, hq, hx⟩ := hg
    obtain ⟨its, rv, p, hlt⟩ := Sq.get I hq
    obtain ⟨u, hu, ru⟩ := rv.get hx
    have hi : i < its.toArray.size := by
      have := (List.getElem?_eq_some_iff.mp hu).1
      simpa using this
    have G := GoesN.enumFrom (elts := elts) (x1 := kk) (pos := tpos) 0 (q.draws (P := X.prog) (w := X.w) (A := X.A.in1) (I.ok.hd hc) it h3 its.toArray) e h1 (by simp [h1, h2]) (by simp)
    refine thn (G.goes i s (fun v s2 => ∃ x H', Inv X pins σ H' s2 ∧ RelV x v ∧ (ItE X.K q).yld i H x H' ∧ ((∃ old, IsEnum s2.heap e it (0 + (((i + 1 : Nat) : Nat) : Int)) old) ∧ q.iter s2.heap it (i + 1)) ∧ ∀ b ∈ [e, it], H' b = none) E hi ⟨⟨old, he⟩, hit, p⟩ ?_) fun r s1 ⟨v, er, hv⟩ => ⟨v, er, thn hv fun _ s2 hq => hq⟩
    rintro v h' tk ⟨T, t, x', rfl, hT, hx', ht⟩ ⟨he', hit', _⟩ hk _
    have ex : x' = u := by
      have hx' : its.toArray[i]? = some x' := hx'
      have hu' : its.toArray[i]? = some u := by simpa using hu
      rw [hu'] at hx'; exact (Option.some.inj hx').symm
    subst ex
    have hn : H T = none := I.hok.fresh hT
    have e0 : (0 + (i : Int)) = ((i : Nat) : Int) := by omega
    have new : ObjOk X.prog X.w (upd H T (.tup [.int (i : Nat), x])) h' T (.tup [.int (i : Nat), x]) :=
      ⟨by show 2 ≤ sizeLine; decide, [.int (0 + (i : Int)) t, x'], .cons ⟨t, by rw [e0]⟩ (.cons ru .nil), ht⟩
    have I1 : Inv X pins σ (upd H T (.tup [.int (i : Nat), x])) { s with heap := h', toks := tk } := I.turnedNew (ch := [e, it]) (fun b ob hb z => hk b ob hb z) hf hT new
    refine ⟨.ref T, _, I1, rfl, ⟨T, x, rfl, hn, rfl, fun ys hy => by rw [Sq.inj I hy hq]; exact hx⟩, ⟨he', hit'⟩, fun b hb => ?_⟩
    have hb' : b < s.heap.objs.size := by
      have e' : b = e ∨ b = it := by simpa using hb
      rcases e' with z | z
      · rw [z]; exact Heap.lt_size he
      · obtain ⟨o, eo, _⟩ := Sq.there hit
        rw [z]; exact Heap.lt_size eo
    rw [upd_ne (Nat.ne_of_lt (Nat.lt_of_lt_of_le hb' hT))]
    exact (hf b hb).1
  done := by
    intro X hP hw hK hc i pins s σ H E I hf st hg
    subst hP hw hK
    obtain ⟨⟨old, he⟩, hit⟩ := st
    obtain ⟨xs, hq, hx⟩ := hg
    obtain ⟨its, rv, p, hlt⟩ := Sq.get I hq
    have hl := rv.length
    have en : i = its.toArray.size := by simp; omega
    have G := GoesN.enumFrom (elts := elts) (x1 := kk) (pos := tpos) 0 (q.draws (P := X.prog) (w := X.w) (A := X.A.in1) (I.ok.hd hc) it h3 its.toArray) e h1 (by simp [h1, h2]) (by simp)
    refine G.stops s (fun s' => Inv X pins σ H s') E (by rw [← en]; exact ⟨⟨old, he⟩, hit, p⟩) fun h' tk hk _ => I.turnedL (ch := [e, it]) hk hf
  self := fun A i s Q E st h => let ⟨⟨_, he⟩, _⟩ := st; wpAny_pyIter_enum he h
def iEnumX (K : PySem.W.Frag) (ta : TA) : TI := fun σ H R => ta σ H fun vs H1 => ∃ q xs, vs = [.ref (Sq.a q)] ∧ q.st K H1 xs ∧ R (ItE K q) H1
theorem pi_enumX {X : Cx} {e : Expr} {ta : TA} {p pos tpos : Pos} {elts : List Expr} {kk : Nat} (hg : Gl X "enumerate") (hm : X.mg "enumerate" = none) (ha : PA X [e] ta) (hs : starEach [e] X.env = [(false, eval e X.env)] := by rfl) :
    PI X (.Tuple elts kk tpos) (.Call (.Name "enumerate" p) [e] [] pos) (iEnumX X.K ta) := by
  refine ⟨fun pins s σ H R I h => ?_⟩
  refine Call_ (ld_blt I hg hm boot_enumerate (PyProof.Rows.callWith_type1 (thn (ha.run pos pins s σ H _ I h) fun us s1 ⟨vs, H1, I1, r1, q1⟩ => ?_) hs rfl))
  obtain ⟨q, xs, ex, hq, hR⟩ := q1
  subst ex
  cases r1 with
  | cons r rr =>
    cases rr
    cases r
    obtain ⟨its, rv, p', hlt⟩ := Sq.get I1 hq
    refine enum_begins1 (q.begins its.toArray) p' fun h' he hit hsz hk => wpAny_pyIter_enum he ?_
    have I2 : Inv X pins σ H1 { s1 with heap := h' } := I1.kept (t' := s1.toks) hk
    have ne1 : (s1.heap.objs.size + 1 : Nat) ≠ s1.heap.objs.size := Nat.succ_ne_self _
    refine ⟨s1.heap.objs.size + 1, [s1.heap.objs.size + 1, s1.heap.objs.size], _, _, H1, rfl, I2, turn_enumX q (s1.heap.objs.size + 1) s1.heap.objs.size ne1 (Nat.ne_of_gt (Nat.lt_succ_of_lt hlt)) (Nat.ne_of_lt hlt), ⟨⟨.none, he⟩, Sq.iter0 hit⟩, fun b hb => ?_, hR⟩
    have e' : b = s1.heap.objs.size + 1 ∨ b = s1.heap.objs.size := by simpa using hb
    have hle : s1.heap.objs.size ≤ b := by
      rcases e' with z | z
      · rw [z]; exact Nat.le_add_right _ _
      · rw [z]; exact Nat.le_refl _
    exact I1.fpOk hle (I1.hok.fresh hle)

/-! ### zip -/
def ItZ (K : PySem.W.Frag) (q1 q2 : Sq) : It :=
  ⟨fun i H => ∃ (xs ys : List V) (x y : V), q1.st K H xs ∧ q2.st K H ys ∧ xs[i]? = some x ∧ ys[i]? = some y,
    fun i H v H' => ∃ T x y, v = .ref T ∧ H T = none ∧ H' = upd H T (.tup [x, y]) ∧ (∀ xs, q1.st K H xs → xs[i]? = some x) ∧ ∀ ys, q2.st K H ys → ys[i]? = some y,
    fun i H => ∃ xs ys : List V, q1.st K H xs ∧ q2.st K H ys ∧ min xs.length ys.length = i⟩
theorem turn_zipX {P : Program} {w : World} {K : PySem.W.Frag} {elts : List Expr} {kk : Nat} {tpos : Pos} (q1 q2 : Sq) (z TI TO i1 i2 : Addr) (S : ZipSep2 z TI TO i1 i2 [i1, q1.a] [i2, q2.a]) (n1 : q1.a ≠ i1) (n2 : q2.a ≠ i2) :
    Turn P w K (.Tuple elts kk tpos) (ItZ K q1 q2) [z, TI, TO, i1, i2] z (fun i h => IsZip h z TI TO .none ∧ IsTupOf2 h TI (.ref i1) (.ref i2) ∧ (∃ a1 a2, IsTupOf2 h TO a1 a2) ∧ q1.iter h i1 i ∧ q2.iter h i2 i) where
  mem := by simp
  obj := fun i h st c hc => by
    obtain ⟨hz, hTI, ⟨x, y, hTO⟩, h1, h2⟩ := st
    have e' : c = z ∨ c = TI ∨ c = TO ∨ c = i1 ∨ c = i2 := by simpa using hc
    rcases e' with q | q | q | q | q
    · rw [q]; exact ⟨_, hz, fun v q => nomatch q⟩
    · rw [q]; exact ⟨_, hTI, fun v q => nomatch q⟩
    · rw [q]; exact ⟨_, hTO, fun v q => nomatch q⟩
    · rw [q]; exact Sq.there h1
    · rw [q]; exact Sq.there h2
  keep := fun i h h' st k => by
    obtain ⟨hz, hTI, ⟨x, y, hTO⟩, h1, h2⟩ := st
    exact ⟨k z (by simp) _ hz, k TI (by simp) _ hTI, ⟨x, y, k TO (by simp) _ hTO⟩, Sq.at h1 fun o q => k i1 (by simp) o q, Sq.at h2 fun o q => k i2 (by simp) o q⟩
  item := by
    intro X hP hw hK hc i pins s σ H E I hf st hg
    subst hP hw hK
    obtain ⟨hz, hTI, ⟨x0, y0, hTO⟩, h1, h2⟩ := st
    obtain ⟨xs, ys, x, y, hqx, hqy, hx, hy⟩ := hg
    obtain ⟨its, rv, p, _⟩ := Sq.get I hqx
    obtain ⟨its2, rv2, p2, _⟩ := Sq.get I hqy
    obtain ⟨u, hu, ru⟩ := rv.get hx
    obtain ⟨u2, hu2, ru2⟩ := rv2.get hy
    have hi : i < min its.toArray.size its2.toArray.size := by
      have l1 := (List.getElem?_eq_some_iff.mp hu).1
      have l2 := (List.getElem?_eq_some_iff.mp hu2).1
      simp only [List.size_toArray]
      omega
    have G := GoesN.zip2 (elts := elts) (x1 := kk) (pos := tpos) S (q1.draws (P := X.prog) (w := X.w) (A := X.A.in1) (I.ok.hd hc) i1 n1 its.toArray) (q2.draws (P := X.prog) (w := X.w) (A := X.A.in1) (I.ok.hd hc) i2 n2 its2.toArray)
    refine thn (G.goes i s (fun v s2 => ∃ x H', Inv X pins σ H' s2 ∧ RelV x v ∧ (ItZ X.K q1 q2).yld i H x H' ∧ (IsZip s2.heap z TI TO .none ∧ IsTupOf2 s2.heap TI (.ref i1) (.ref i2) ∧ (∃ a1 a2, IsTupOf2 s2.heap TO a1 a2) ∧ q1.iter s2.heap i1 (i + 1) ∧ q2.iter s2.heap i2 (i + 1)) ∧ ∀ b ∈ [z, TI, TO, i1, i2], H' b = none) E hi ⟨hz, hTI, ⟨x0, y0, hTO⟩, ⟨h1, p⟩, h2, p2⟩ ?_) fun r s1 ⟨v, er, hv⟩ => ⟨v, er, thn hv fun _ s2 hq => hq⟩
    rintro v h' tk ⟨T, x', y', rfl, hT, hx', hy', ht⟩ ⟨hz', hTI', hTO', ⟨h1', _⟩, h2', _⟩ hk _
    have ex : x' = u := by
      have hx' : its.toArray[i]? = some x' := hx'
      have hu' : its.toArray[i]? = some u := by simpa using hu
      rw [hu'] at hx'; exact (Option.some.inj hx').symm
    have ey : y' = u2 := by
      have hy' : its2.toArray[i]? = some y' := hy'
      have hu' : its2.toArray[i]? = some u2 := by simpa using hu2
      rw [hu'] at hy'; exact (Option.some.inj hy').symm
    subst ex ey
    have hn : H T = none := I.hok.fresh hT
    have new : ObjOk X.prog X.w (upd H T (.tup [x, y])) h' T (.tup [x, y]) := ⟨by show 2 ≤ sizeLine; decide, [x', y'], .cons ru (.cons ru2 .nil), ht⟩
    have I1 : Inv X pins σ (upd H T (.tup [x, y])) { s with heap := h', toks := tk } := I.turnedNew (ch := [z, TI, TO, i1, i2]) (fun b ob hb q => hk b ob (fun hm => hb (by
      have e' : b = z ∨ b = TO ∨ b = i1 ∨ b = i2 := by simpa using hm
      rcases e' with q | q | q | q <;> simp [q])) q) hf hT new
    refine ⟨.ref T, _, I1, rfl, ⟨T, x, y, rfl, hn, rfl, fun ys hy => by rw [Sq.inj I hy hqx]; exact hx, fun l hl => by rw [Sq.inj I hl hqy]; exact hy⟩, ⟨hz', hTI', hTO', h1', h2'⟩, fun b hb => ?_⟩
    have hb' : b < s.heap.objs.size := by
      have e' : b = z ∨ b = TI ∨ b = TO ∨ b = i1 ∨ b = i2 := by simpa using hb
      rcases e' with q | q | q | q | q
      · rw [q]; exact Heap.lt_size hz
      · rw [q]; exact Heap.lt_size hTI
      · rw [q]; exact Heap.lt_size hTO
      · obtain ⟨o, eo, _⟩ := Sq.there h1; rw [q]; exact Heap.lt_size eo
      · obtain ⟨o, eo, _⟩ := Sq.there h2; rw [q]; exact Heap.lt_size eo
    rw [upd_ne (Nat.ne_of_lt (Nat.lt_of_lt_of_le hb' hT))]
    exact (hf b hb).1
  done := by
    intro X hP hw hK hc i pins s σ H E I hf st hg
    subst hP hw hK
    obtain ⟨hz, hTI, ⟨x0, y0, hTO⟩, h1, h2⟩ := st
    obtain ⟨xs, ys, hqx, hqy, hend⟩ := hg
    obtain ⟨its, rv, p, _⟩ := Sq.get I hqx
    obtain ⟨its2, rv2, p2, _⟩ := Sq.get I hqy
    have l1 := rv.length
    have l2 := rv2.length
    have en : i = min its.toArray.size its2.toArray.size := by simp only [List.size_toArray]; omega
    have G := GoesN.zip2 (elts := elts) (x1 := kk) (pos := tpos) S (q1.draws (P := X.prog) (w := X.w) (A := X.A.in1) (I.ok.hd hc) i1 n1 its.toArray) (q2.draws (P := X.prog) (w := X.w) (A := X.A.in1) (I.ok.hd hc) i2 n2 its2.toArray)
    refine G.stops s (fun s' => Inv X pins σ H s') E (by rw [← en]; exact ⟨hz, hTI, ⟨x0, y0, hTO⟩, ⟨h1, p⟩, h2, p2⟩) fun h' tk hk _ => I.turnedL (ch := [z, TI, TO, i1, i2]) (fun b o hb q => hk b o (fun hm => hb (by
      have e' : b = z ∨ b = TO ∨ b = i1 ∨ b = i2 := by simpa using hm
      rcases e' with q | q | q | q <;> simp [q])) q) hf
  self := fun A i s Q E st h => wpAny_pyIter_zip st.1 h
def iZipX (K : PySem.W.Frag) (ta : TA) : TI := fun σ H R => ta σ H fun vs H1 => ∃ q1 q2 xs ys, vs = [.ref (Sq.a q1), .ref (Sq.a q2)] ∧ q1.st K H1 xs ∧ q2.st K H1 ys ∧ R (ItZ K q1 q2) H1
theorem pi_zipX {X : Cx} {e e2 : Expr} {ta : TA} {p pos tpos : Pos} {elts : List Expr} {kk : Nat} (hg : Gl X "zip") (hm : X.mg "zip" = none) (ha : PA X [e, e2] ta)
    (hs : starEach [e, e2] X.env = (false, eval e X.env) :: starEach [e2] X.env := by rfl) (hpl : (backTo pos (starEach [e2] X.env)).any (·.1) = false := by rfl) :
    PI X (.Tuple elts kk tpos) (.Call (.Name "zip" p) [e, e2] [] pos) (iZipX X.K ta) := by
  refine ⟨fun pins s σ H R I h => ?_⟩
  refine Call_ (ld_blt I hg hm PyProof.Rows.boot_zip (PyProof.Rows.callWith_type1 (thn (ha.run pos pins s σ H _ I h) fun us s1 ⟨vs, H1, I1, r1, q1⟩ => ?_) hs hpl))
  obtain ⟨qa, qb, xs, ys, ex, hqx, hqy, hR⟩ := q1
  subst ex
  cases r1 with
  | cons r rr =>
    cases rr with
    | cons r' rr =>
      cases rr
      cases r
      cases r'
      obtain ⟨its, rv, p1, lt1⟩ := Sq.get I1 hqx
      obtain ⟨its2, rv2, p2, lt2⟩ := Sq.get I1 hqy
      refine zip_begins2 (qa.begins its.toArray) (qb.begins its2.toArray) p1 p2 fun h' hz hTI hTO h1 h2 hsz hk => wpAny_pyIter_zip hz ?_
      have I2 : Inv X pins σ H1 { s1 with heap := h' } := I1.kept (t' := s1.toks) hk
      refine ⟨s1.heap.objs.size + 4, [s1.heap.objs.size + 4, s1.heap.objs.size + 2, s1.heap.objs.size + 3, s1.heap.objs.size, s1.heap.objs.size + 1], _, _, H1, rfl, I2, turn_zipX qa qb _ _ _ _ _ (zip_sep2 (fp1 := [qa.a]) (fp2 := [qb.a]) (fun b hb => by rw [List.mem_singleton.mp hb]; exact lt1) (fun b hb => by rw [List.mem_singleton.mp hb]; exact lt2)) (Nat.ne_of_lt lt1) (Nat.ne_of_lt (Nat.lt_succ_of_lt lt2)), ⟨hz, hTI, ⟨_, _, hTO⟩, Sq.iter0 h1, Sq.iter0 h2⟩, fun c hcm => ?_, hR⟩
      have e' : c = s1.heap.objs.size + 4 ∨ c = s1.heap.objs.size + 2 ∨ c = s1.heap.objs.size + 3 ∨ c = s1.heap.objs.size ∨ c = s1.heap.objs.size + 1 := by simpa using hcm
      have hle : s1.heap.objs.size ≤ c := by
        rcases e' with z | z | z | z | z
        · rw [z]; exact Nat.le_add_right _ _
        · rw [z]; exact Nat.le_add_right _ _
        · rw [z]; exact Nat.le_add_right _ _
        · rw [z]; exact Nat.le_refl _
        · rw [z]; exact Nat.le_add_right _ _
      exact I1.fpOk hle (I1.hok.fresh hle)

/-! ### a list, a tuple, a text -/
def iAny (K : PySem.W.Frag) (tl : TE) : TI := fun σ H R => tl σ H fun x H1 => (∃ a, x = .ref a ∧ (((∃ xs, SqL K H1 a xs) ∧ R (Itl K a) H1) ∨ ((∃ xs, SqT K H1 a xs) ∧ R (Itt K a) H1))) ∨ ∃ z, x = .str z ∧ R (Its z) H1
theorem pi_any {X : Cx} {tg l : Expr} {tl : TE} (hl : PE X l tl) : PI X tg l (iAny X.K tl) := by
  refine ⟨fun pins s σ H R I h => ?_⟩
  refine thn (hl.run pins s σ H _ I h) fun v s1 ⟨x, H1, I1, r1, q1⟩ => ?_
  rcases q1 with ⟨a, e, ⟨⟨xs, hq⟩, q⟩ | ⟨⟨xs, hq⟩, q⟩⟩ | ⟨z, e, q⟩
  · subst e
    cases r1
    obtain ⟨its, rv, p, hz⟩ := I1.list hq
    refine wpAny_pyIter_list p.isList ?_
    exact pi_one (tk := s1.toks) I1 _ (turn_list a _) ⟨_, Heap.get?_push_size _ rfl, rfl, rfl⟩ q
  · subst e
    cases r1
    obtain ⟨its, rv, p, hz⟩ := I1.tuple hq
    refine wpAny_pyIter_tuple (show s1.heap.IsTuple a its.toArray from p) ?_
    exact pi_one (tk := s1.toks) I1 _ (turn_tuple a _) ⟨_, Heap.get?_push_size _ rfl, rfl, rfl⟩ q
  · subst e
    obtain ⟨t, rfl⟩ := r1
    cases ha : z.cps.all (· < 128)
    · exact wpAny_pyIter_wide ha (pi_one (tk := s1.toks) I1 _ (turn_str _ z t "str_iterator" (.inr rfl)) ⟨_, Heap.get?_push_size _ rfl, rfl, rfl⟩ q)
    · exact wpAny_pyIter_ascii ha (pi_one (tk := s1.toks) I1 _ (turn_str _ z t "str_ascii_iterator" (.inl rfl)) ⟨_, Heap.get?_push_size _ rfl, rfl, rfl⟩ q)
end DL

set_option Elab.async false
set_option linter.all false
set_option maxRecDepth 100000
set_option maxHeartbeats 4000000
namespace DL
open PySem PySem.Spec L2
open PyProof.Rows hiding St

section
variable {C : Ctx}
/-! ### sources -/
def charsD (z : Str) : List D := z.cps.toList.map fun c => .str ⟨#[c]⟩
def itemsD : D → Option (List D)
  | .list xs => some xs
  | .tuple xs => some xs
  | .str z => some (charsD z)
  | _ => none
def srcM (f : M D) : M (List D) := bindM f fun d => liftO (itemsD d)
theorem walk_list {B : Hp} {a : Addr} {vs : List V} {ds : List D} (h : SqL C.K B a vs) (r : Rps C.K B vs ds) : Walk C (Itl C.K a) B ds where
  go := fun i H hi L => by
    have hv : i < vs.length := by rw [r.length]; exact hi
    exact ⟨vs, vs[i], L.sqL h, by simp [hv]⟩
  stop := fun H L => ⟨vs, L.sqL h, Nat.le_of_eq r.length⟩
  yld := fun i H x H' B2 d y e L L2 => by
    obtain ⟨rfl, f⟩ := y
    obtain ⟨v, e2, rp⟩ := r.get' e
    have := f vs (L2.sqL (L.sqL h))
    rw [e2] at this
    cases this
    exact ⟨B2, .refl, rp.le L⟩
theorem walk_tup {B : Hp} {a : Addr} {vs : List V} {ds : List D} (h : SqT C.K B a vs) (r : Rps C.K B vs ds) : Walk C (Itt C.K a) B ds where
  go := fun i H hi L => by
    have hv : i < vs.length := by rw [r.length]; exact hi
    exact ⟨vs, vs[i], L.sqT h, by simp [hv]⟩
  stop := fun H L => ⟨vs, L.sqT h, Nat.le_of_eq r.length⟩
  yld := fun i H x H' B2 d y e L L2 => by
    obtain ⟨rfl, f⟩ := y
    obtain ⟨v, e2, rp⟩ := r.get' e
    have := f vs (L2.sqT (L.sqT h))
    rw [e2] at this
    cases this
    exact ⟨B2, .refl, rp.le L⟩
theorem walk_str {B : Hp} {z : Str} : Walk C (Its z) B (charsD z) where
  go := fun i H hi _ => by
    unfold charsD at hi
    rw [List.length_map, Array.length_toList] at hi
    exact hi
  stop := fun H _ => by
    unfold charsD
    rw [List.length_map, Array.length_toList]
    exact Nat.le_refl _
  yld := fun i H x H' B2 d y e L L2 => by
    obtain ⟨rfl, c, hc, rfl⟩ := y
    unfold charsD at e
    rw [List.getElem?_map, Array.getElem?_toList, hc] at e
    cases e
    exact ⟨B2, .refl, .str _⟩
theorem satI_any {tl : TE} {f : M D} (h : Sat C tl f) : SatI C (iAny C.K tl) (srcM f) := by
  intro N σ H B g R Rr q
  refine h.run (P := fun x => FinI C N σ B x R) Rr q (fun n ct z => z) (fun z => z) fun d g' v H1 B1 _ R1 L1 rp1 q1 => ?_
  cases rp1 with
  | lst hb r => exact .inl ⟨_, rfl, .inl ⟨⟨_, SqL.of (R1.sub _ _ hb)⟩, q1 _ H1 B1 R1 L1 (walk_list (SqL.of hb) r)⟩⟩
  | tup hb r => exact .inl ⟨_, rfl, .inr ⟨⟨_, SqT.of (R1.sub _ _ hb)⟩, q1 _ H1 B1 R1 L1 (walk_tup (SqT.of hb) r)⟩⟩
  | str z => exact .inr ⟨z, rfl, q1 _ H1 B1 R1 L1 walk_str⟩
  | _ => exact q1.elim
def rangeL (lo : Int) (n : Nat) : List D := (List.range n).map fun i => PyData.int (lo + (i : Nat))
def rng1 (ds : List D) : Option (List D) := match ds with
  | [.int j] => if -(2 ^ 62) ≤ j ∧ j < 2 ^ 62 then some (rangeL 0 j.toNat) else none
  | _ => none
def rng2 (ds : List D) : Option (List D) := match ds with
  | [.int i, .int j] => if -(2 ^ 62) ≤ i ∧ i < 2 ^ 62 ∧ -(2 ^ 62) ≤ j ∧ j < 2 ^ 62 then some (rangeL i (j - i).toNat) else none
  | _ => none
def srcA (h : List D → Option (List D)) (f : M (List D)) : M (List D) := bindM f fun ds => liftO (h ds)
theorem walk_range {B : Hp} {lo : Int} {n : Nat} : Walk C (Itr lo n) B (rangeL lo n) where
  go := fun i H hi _ => by
    unfold rangeL at hi
    rw [List.length_map, List.length_range] at hi
    exact hi
  stop := fun H _ => by
    unfold rangeL
    rw [List.length_map, List.length_range]
    exact Nat.le_refl _
  yld := fun i H x H' B2 d y e L L2 => by
    obtain ⟨rfl, rfl⟩ := y
    unfold rangeL at e
    rw [List.getElem?_map] at e
    by_cases hi : i < n
    · rw [List.getElem?_range hi] at e
      cases e
      exact ⟨B2, .refl, .int _⟩
    · rw [List.getElem?_eq_none (by simpa using hi)] at e; cases e
theorem rng1_some {ds xs : List D} (h : rng1 ds = some xs) : ∃ j, ds = [.int j] ∧ -(2 ^ 62) ≤ j ∧ j < 2 ^ 62 ∧ xs = rangeL 0 j.toNat := by
  unfold rng1 at h
  split at h
  · split at h
    · rename_i j hb; cases h; exact ⟨j, rfl, hb.1, hb.2, rfl⟩
    · cases h
  · cases h
theorem rng2_some {ds xs : List D} (h : rng2 ds = some xs) : ∃ i j, ds = [.int i, .int j] ∧ (-(2 ^ 62) ≤ i ∧ i < 2 ^ 62 ∧ -(2 ^ 62) ≤ j ∧ j < 2 ^ 62) ∧ xs = rangeL i (j - i).toNat := by
  unfold rng2 at h
  split at h
  · split at h
    · rename_i i j hb; cases h; exact ⟨i, j, rfl, hb, rfl⟩
    · cases h
  · cases h
theorem Rps.one_of {B : Hp} {vs : List V} {d : D} (r : Rps C.K B vs [d]) : ∃ v, vs = [v] ∧ Rp C.K B v d := by
  cases r with
  | cons a b => cases b; exact ⟨_, rfl, a⟩
theorem Rps.two_of {B : Hp} {vs : List V} {d e : D} (r : Rps C.K B vs [d, e]) : ∃ v w, vs = [v, w] ∧ Rp C.K B v d ∧ Rp C.K B w e := by
  cases r with
  | cons a b =>
    obtain ⟨w, rfl, c⟩ := b.one_of
    exact ⟨_, _, rfl, a, c⟩
theorem finI_lift {N : An} {σ : St} {B : Hp} {o : Option (List D)} {g : Sg} {R : It → Hp → Prop} (h : FinI C N σ B (liftO o g) R) : ∃ xs, o = some xs ∧ FinI C N σ B (.ok xs g) R := by
  cases o with
  | none => exact h.elim
  | some xs => exact ⟨xs, rfl, h⟩
theorem satI_rng1 {ta : TA} {f : M (List D)} (h : SatA C ta f) : SatI C (iRng1 ta) (srcA rng1 f) := by
  intro N σ H B g R Rr q
  refine h.run (P := fun x => FinI C N σ B x R) Rr q (fun n ct z => z) (fun z => z) fun ds g' vs H1 B1 _ R1 L1 rp1 q1 => ?_
  obtain ⟨xs, e, q1⟩ := finI_lift q1
  obtain ⟨j, rfl, h1, h2, rfl⟩ := rng1_some e
  obtain ⟨v, rfl, r⟩ := rp1.one_of
  cases r
  exact ⟨j, rfl, h1, h2, q1 _ H1 B1 R1 L1 walk_range⟩
theorem satI_rng2 {ta : TA} {f : M (List D)} (h : SatA C ta f) : SatI C (iRng2 ta) (srcA rng2 f) := by
  intro N σ H B g R Rr q
  refine h.run (P := fun x => FinI C N σ B x R) Rr q (fun n ct z => z) (fun z => z) fun ds g' vs H1 B1 _ R1 L1 rp1 q1 => ?_
  obtain ⟨xs, e, q1⟩ := finI_lift q1
  obtain ⟨i, j, rfl, h1, rfl⟩ := rng2_some e
  obtain ⟨v, w, rfl, r, r'⟩ := rp1.two_of
  cases r; cases r'
  exact ⟨i, j, rfl, h1, q1 _ H1 B1 R1 L1 walk_range⟩
/-- a list or a tuple -/
def seqD : D → Option (List D)
  | .list xs => some xs
  | .tuple xs => some xs
  | _ => none
theorem Rp.seq {B : Hp} {v : V} {d : D} {ds : List D} (r : Rp C.K B v d) (h : seqD d = some ds) : ∃ q vs, v = .ref (Sq.a q) ∧ q.st C.K B vs ∧ Rps C.K B vs ds := by
  cases r with
  | lst hb r => cases h; exact ⟨.L _, _, rfl, SqL.of hb, r⟩
  | tup hb r => cases h; exact ⟨.T _, _, rfl, SqT.of hb, r⟩
  | _ => cases h
def enumL (xs : List D) : List D := xs.zipIdx.map fun p => PyData.tuple [.int ((p.2 : Nat) : Int), p.1]
def enumD (ds : List D) : Option (List D) := match ds with
  | [d] => (seqD d).map enumL
  | _ => none
theorem walk_enum {B : Hp} {q : Sq} {vs : List V} {ds : List D} (h : q.st C.K B vs) (r : Rps C.K B vs ds) : Walk C (ItE C.K q) B (enumL ds) where
  go := fun i H hi L => by
    have hv : i < vs.length := by
      unfold enumL at hi
      rw [List.length_map, List.length_zipIdx] at hi
      rw [r.length]; exact hi
    exact ⟨vs, vs[i], Sq.le L h, by simp [hv]⟩
  stop := fun H L => ⟨vs, Sq.le L h, by unfold enumL; rw [List.length_map, List.length_zipIdx]; exact r.length⟩
  yld := fun i H x H' B2 d y e L L2 => by
    obtain ⟨T, z, rfl, hT, rfl, f⟩ := y
    unfold enumL at e
    rw [List.getElem?_map, List.getElem?_zipIdx] at e
    cases e0 : ds[i]? with
    | none => rw [e0] at e; cases e
    | some d0 =>
      rw [e0] at e
      cases e
      obtain ⟨v, e2, rp⟩ := r.get' e0
      have this := f vs (Sq.le L2 (Sq.le L h))
      rw [e2] at this
      obtain rfl : v = z := Option.some.inj this
      have G : Grow H B2 (upd H T (.tup [.int (i : Nat), v])) (upd B2 T (.tup [.int (i : Nat), v])) := .upd hT L2
      refine ⟨_, G, ?_⟩
      have e1 : (((0 + i : Nat) : Nat) : Int) = (i : Nat) := by omega
      simp only [e1]
      exact .tup upd_same (.cons (.int _) (.cons ((rp.le L).le G.b) .nil))
theorem enumD_some {ds xs : List D} (h : enumD ds = some xs) : ∃ d ys, ds = [d] ∧ seqD d = some ys ∧ xs = enumL ys := by
  unfold enumD at h
  split at h
  · rename_i d
    cases e : seqD d with
    | none => rw [e] at h; cases h
    | some ys => rw [e] at h; cases h; exact ⟨d, ys, rfl, e, rfl⟩
  · cases h
theorem satI_enum {ta : TA} {f : M (List D)} (h : SatA C ta f) : SatI C (iEnumX C.K ta) (srcA enumD f) := by
  intro N σ H B g R Rr q
  refine h.run (P := fun x => FinI C N σ B x R) Rr q (fun n ct z => z) (fun z => z) fun ds g' vs H1 B1 _ R1 L1 rp1 q1 => ?_
  obtain ⟨xs, e, q1⟩ := finI_lift q1
  obtain ⟨d, ys, rfl, e2, rfl⟩ := enumD_some e
  obtain ⟨v, rfl, a⟩ := rp1.one_of
  obtain ⟨q, ws, rfl, hq, r⟩ := a.seq e2
  exact ⟨q, ws, rfl, Sq.le R1.sub hq, q1 _ H1 B1 R1 L1 (walk_enum hq r)⟩
def zipL (xs ys : List D) : List D := List.zipWith (fun x y => PyData.tuple [x, y]) xs ys
def zipD (ds : List D) : Option (List D) := match ds with
  | [d, e] => (seqD d).bind fun xs => (seqD e).map fun ys => zipL xs ys
  | _ => none
theorem walk_zip {B : Hp} {q1 q2 : Sq} {vs ws : List V} {ds es : List D} (h1 : q1.st C.K B vs) (r1 : Rps C.K B vs ds) (h2 : q2.st C.K B ws) (r2 : Rps C.K B ws es) : Walk C (ItZ C.K q1 q2) B (zipL ds es) where
  go := fun i H hi L => by
    unfold zipL at hi
    rw [List.length_zipWith] at hi
    have hv : i < vs.length := by rw [r1.length]; omega
    have hw : i < ws.length := by rw [r2.length]; omega
    exact ⟨vs, ws, vs[i], ws[i], Sq.le L h1, Sq.le L h2, by simp [hv], by simp [hw]⟩
  stop := fun H L => ⟨vs, ws, Sq.le L h1, Sq.le L h2, by unfold zipL; rw [List.length_zipWith, r1.length, r2.length]⟩
  yld := fun i H x H' B2 d y e L L2 => by
    obtain ⟨T, z1, z2, rfl, hT, rfl, f1, f2⟩ := y
    unfold zipL at e
    rw [List.getElem?_zipWith] at e
    cases e0 : ds[i]? with
    | none => rw [e0] at e; cases e
    | some d0 =>
      cases e1 : es[i]? with
      | none => rw [e0, e1] at e; cases e
      | some d1 =>
        rw [e0, e1] at e
        cases e
        obtain ⟨v, e2, rp⟩ := r1.get' e0
        obtain ⟨w', e3, rp2⟩ := r2.get' e1
        have g1 := f1 vs (Sq.le L2 (Sq.le L h1))
        have g2 := f2 ws (Sq.le L2 (Sq.le L h2))
        rw [e2] at g1
        rw [e3] at g2
        obtain rfl : v = z1 := Option.some.inj g1
        obtain rfl : w' = z2 := Option.some.inj g2
        have G : Grow H B2 (upd H T (.tup [v, w'])) (upd B2 T (.tup [v, w'])) := .upd hT L2
        exact ⟨_, G, .tup upd_same (.cons ((rp.le L).le G.b) (.cons ((rp2.le L).le G.b) .nil))⟩
theorem zipD_some {ds xs : List D} (h : zipD ds = some xs) : ∃ d e ys zs, ds = [d, e] ∧ seqD d = some ys ∧ seqD e = some zs ∧ xs = zipL ys zs := by
  unfold zipD at h
  split at h
  · rename_i d e
    cases e1 : seqD d with
    | none => rw [e1] at h; cases h
    | some ys =>
      cases e2 : seqD e with
      | none => rw [e1, e2] at h; cases h
      | some zs => rw [e1, e2] at h; cases h; exact ⟨d, e, ys, zs, rfl, e1, e2, rfl⟩
  · cases h
theorem satI_zip {ta : TA} {f : M (List D)} (h : SatA C ta f) : SatI C (iZipX C.K ta) (srcA zipD f) := by
  intro N σ H B g R Rr q
  refine h.run (P := fun x => FinI C N σ B x R) Rr q (fun n ct z => z) (fun z => z) fun ds g' vs H1 B1 _ R1 L1 rp1 q1 => ?_
  obtain ⟨xs, e, q1⟩ := finI_lift q1
  obtain ⟨d, d', ys, zs, rfl, e2, e3, rfl⟩ := zipD_some e
  obtain ⟨v, w, rfl, a, b⟩ := rp1.two_of
  obtain ⟨qa, ws, rfl, hq, r⟩ := a.seq e2
  obtain ⟨qb, us, rfl, hq2, r2⟩ := b.seq e3
  exact ⟨qa, qb, ws, us, rfl, Sq.le R1.sub hq, Sq.le R1.sub hq2, q1 _ H1 B1 R1 L1 (walk_zip hq r hq2 r2)⟩

/-! ### data for the library -/
mutual
theorem Rp.dp {K : PySem.W.Frag} {B H : Hp} (L : Le B H) : ∀ {d : D} {v : V}, d.canLay0 = true → Rp K B v d → Dp K H v d
  | _, _, _, .non => .non
  | _, _, _, .bl b => .bl b
  | _, _, _, .int i => .int i
  | _, _, _, .str x => .str x
  | _, _, h, .tup hq r => .tup (SqT.of (L _ _ hq)) (Rps.dp L (by simpa [PyData.canLay0] using h) r)
  | _, _, h, .lst hq r => .lst (SqL.of (L _ _ hq)) (Rps.dp L (by simpa [PyData.canLay0] using h) r)
  | _, _, h, .dT _ _ _ => by simp [PyData.canLay0] at h
  | _, _, h, .dK _ _ _ => by simp [PyData.canLay0] at h
theorem Rps.dp {K : PySem.W.Frag} {B H : Hp} (L : Le B H) : ∀ {ds : List D} {vs : List V}, PyData.canLayAll0 ds = true → Rps K B vs ds → DpAll K H vs ds
  | _, _, _, .nil => .nil
  | _, _, h, .cons a r => by
    have h' := Bool.and_eq_true_iff.mp (show (PyData.canLay0 _ && PyData.canLayAll0 _) = true from h)
    exact .cons (Rp.dp L h'.1 a) (Rps.dp L h'.2 r)
end

/-! ### operators -/
section
variable {X : Cx}
theorem op_addX : OpR X (binaryOp .Add) (fun x y H Q => ((rI0 fun i j => .int (i + j)) x y H Q ∨ (∃ i j, x = .str i ∧ y = .str j ∧ i.length + j.length ≤ sizeLine ∧ Q (.str (i ++ j)) H)) ∨ rCatA X.K x y H Q ∨ rCat x y H Q) :=
  (op_add.or op_add_str).or (op_catA.or op_cat)
end
def addD : D → D → Option D
  | .int i, .int j => some (.int (i + j))
  | .str i, .str j => if i.length + j.length ≤ sizeLine then some (.str (i ++ j)) else none
  | .tuple xs, .tuple ys => if xs.length + ys.length ≤ sizeLine then some (.tuple (xs ++ ys)) else none
  | .list xs, .list ys => if xs.length + ys.length ≤ sizeLine then some (.list (xs ++ ys)) else none
  | _, _ => none
theorem Rps.nil_iff {K : PySem.W.Frag} {B : Hp} {vs : List V} {ds : List D} (r : Rps K B vs ds) : vs = [] ↔ ds = [] := by
  cases r <;> simp
theorem if_some {c : Prop} [Decidable c] {α : Type} {x d : α} (h : (if c then some x else none) = some d) : c ∧ x = d := by
  split at h
  · rename_i hc; exact ⟨hc, Option.some.inj h⟩
  · cases h
theorem v2_add : V2 C (fun x y H Q => ((rI0 fun i j => .int (i + j)) x y H Q ∨ (∃ i j, x = .str i ∧ y = .str j ∧ i.length + j.length ≤ sizeLine ∧ Q (.str (i ++ j)) H)) ∨ rCatA C.K x y H Q ∨ rCat x y H Q) addD := by
  intro H B x y dx dy d Q L rx ry e q
  cases rx with
  | int i =>
    cases ry with
    | int j => cases e; exact .inl (.inl ⟨i, j, rfl, rfl, q _ H B .refl (.int _)⟩)
    | _ => cases e
  | str i =>
    cases ry with
    | str j =>
      obtain ⟨hl, rfl⟩ := if_some e
      exact .inl (.inr ⟨i, j, rfl, rfl, hl, q _ H B .refl (.str _)⟩)
    | _ => cases e
  | tup hx rx =>
    rename_i a1 vs1 ds1
    cases ry with
    | tup hy ry =>
      rename_i a2 vs2 ds2
      obtain ⟨hl, rfl⟩ := if_some e
      refine .inr (.inl ⟨_, _, _, _, rfl, rfl, SqT.of (L _ _ hx), SqT.of (L _ _ hy), by rw [rx.length, ry.length]; exact hl, fun h0 => ?_, fun h0 h1 => ?_, fun h0 h1 p hp => ?_⟩)
      · have := rx.nil_iff.mp h0; subst this; exact q _ H B .refl (.tup hy ry)
      · have := ry.nil_iff.mp h1; subst this; rw [List.append_nil] at q; exact q _ H B .refl (.tup hx rx)
      · have G := Grow.upd (o := .tup (vs1 ++ vs2)) hp L
        exact q _ _ _ G (.tup upd_same ((rx.append ry).le G.b))
    | _ => cases e
  | lst hx rx =>
    rename_i a1 vs1 ds1
    cases ry with
    | lst hy ry =>
      rename_i a2 vs2 ds2
      obtain ⟨hl, rfl⟩ := if_some e
      refine .inr (.inr ⟨_, _, _, _, rfl, rfl, L _ _ hx, L _ _ hy, by rw [rx.length, ry.length]; exact hl, fun p hp => ?_⟩)
      have G := Grow.upd (o := .lst (vs1 ++ vs2)) hp L
      exact q _ _ _ G (.lst upd_same ((rx.append ry).le G.b))
    | _ => cases e
  | _ => cases e
/-- two ints -/
def i2D (c : Int → Int → Bool) (f : Int → Int → D) : D → D → Option D
  | .int i, .int j => if c i j = true then some (f i j) else none
  | _, _ => none
theorem v2_int {Cn : Int → Int → Prop} {gv : Int → Int → V} {c : Int → Int → Bool} {f : Int → Int → D} (hc : ∀ i j, c i j = true → Cn i j) (hf : ∀ K B i j, Rp K B (gv i j) (f i j)) : V2 C (rI Cn gv) (i2D c f) := by
  intro H B x y dx dy d Q L rx ry e q
  cases rx with
  | int i =>
    cases ry with
    | int j =>
      obtain ⟨h, rfl⟩ := if_some e
      exact ⟨i, j, rfl, rfl, hc i j h, q _ H B .refl (hf _ _ i j)⟩
    | _ => cases e
  | _ => cases e
theorem v2_int0 {gv : Int → Int → V} {f : Int → Int → D} (hf : ∀ K B i j, Rp K B (gv i j) (f i j)) : V2 C (rI0 gv) (i2D (fun _ _ => true) f) := by
  intro H B x y dx dy d Q L rx ry e q
  cases rx with
  | int i =>
    cases ry with
    | int j => cases e; exact ⟨i, j, rfl, rfl, q _ H B .refl (hf _ _ i j)⟩
    | _ => cases e
  | _ => cases e
def subD := i2D (fun _ _ => true) fun i j => .int (i - j)
theorem v2_sub : V2 C (rI0 fun i j => .int (i - j)) subD := v2_int0 fun _ _ _ _ => .int _
def smallI (i : Int) : Bool := decide (-(2 ^ 64) < i ∧ i < 2 ^ 64)
def mulD := i2D (fun i j => smallI i || smallI j) fun i j => .int (i * j)
theorem v2_mul : V2 C (rI CMul fun i j => .int (i * j)) mulD := v2_int (fun i j h => by
  rcases Bool.or_eq_true_iff.mp h with h | h
  · exact .inl (of_decide_eq_true h)
  · exact .inr (of_decide_eq_true h)) fun _ _ _ _ => .int _
def fdivD := i2D (fun _ j => decide (j ≠ 0 ∧ j.natAbs < 1073741824)) fun i j => .int (i.fdiv j)
theorem v2_fdiv : V2 C (rI CDivN fun i j => .int (i.fdiv j)) fdivD := v2_int (fun i j h => (of_decide_eq_true h : j ≠ 0 ∧ j.natAbs < 1073741824)) fun _ _ _ _ => .int _
def modD := i2D (fun _ j => decide (j ≠ 0)) fun i j => .int (i.fmod j)
theorem v2_mod : V2 C (rI (fun _ j => j ≠ 0) fun i j => .int (i.fmod j)) modD := v2_int (fun i j h => of_decide_eq_true h) fun _ _ _ _ => .int _
def powOk (i j : Int) : Bool := decide (0 ≤ j ∧ j ≤ 1000000 ∧ i.natAbs < 2 ^ 64)
def powD := i2D powOk fun i j => .int (i ^ j.toNat)
theorem v2_pow : V2 C (rI CPow fun i j => .int (i ^ j.toNat)) powD := v2_int (fun i j h => (of_decide_eq_true h : 0 ≤ j ∧ j ≤ 1000000 ∧ i.natAbs < 2 ^ 64)) fun _ _ _ _ => .int _
def shlD := i2D powOk fun i j => .int (i * 2 ^ j.toNat)
theorem v2_shl : V2 C (rI CPow fun i j => .int (i * 2 ^ j.toNat)) shlD := v2_int (fun i j h => (of_decide_eq_true h : 0 ≤ j ∧ j ≤ 1000000 ∧ i.natAbs < 2 ^ 64)) fun _ _ _ _ => .int _
def shrD := i2D (fun _ j => decide (0 ≤ j)) fun i j => .int (i / 2 ^ j.toNat)
theorem v2_shr : V2 C (rI (fun _ j => 0 ≤ j) fun i j => .int (i / 2 ^ j.toNat)) shrD := v2_int (fun i j h => of_decide_eq_true h) fun _ _ _ _ => .int _
def bandD := i2D (fun _ _ => true) fun i j => .int (Builtin.bitAnd i j)
theorem v2_and : V2 C (rI0 fun i j => .int (Builtin.bitAnd i j)) bandD := v2_int0 fun _ _ _ _ => .int _
def ltD := i2D (fun _ _ => true) fun i j => .bool (decide (i < j))
theorem v2_lt : V2 C (rI0 fun i j => .bl (decide (i < j))) ltD := v2_int0 fun _ _ _ _ => .bl _
def leD := i2D (fun _ _ => true) fun i j => .bool (decide (i ≤ j))
theorem v2_le : V2 C (rI0 fun i j => .bl (decide (i ≤ j))) leD := v2_int0 fun _ _ _ _ => .bl _
def gtD := i2D (fun _ _ => true) fun i j => .bool (decide (j < i))
theorem v2_gt : V2 C (rI0 fun i j => .bl (decide (j < i))) gtD := v2_int0 fun _ _ _ _ => .bl _
def geD := i2D (fun _ _ => true) fun i j => .bool (decide (j ≤ i))
theorem v2_ge : V2 C (rI0 fun i j => .bl (decide (j ≤ i))) geD := v2_int0 fun _ _ _ _ => .bl _
theorem canLay_shaped {d : D} (h : SeqAt.shaped d = true) : d.canLay0 = true := SeqAt.canLay_of_shaped h
def eqD (x y : D) : Option D := if SeqAt.shaped x = true ∧ SeqAt.shaped y = true then some (.bool (PyData.eqv x y)) else none
def neD (x y : D) : Option D := if SeqAt.shaped x = true ∧ SeqAt.shaped y = true then some (.bool (!PyData.eqv x y)) else none
theorem v2_eq : V2 C (rEqD C.K) eqD := by
  intro H B x y dx dy d Q L rx ry e q
  obtain ⟨h, rfl⟩ := if_some e
  exact ⟨dx, dy, rx.dp L (canLay_shaped h.1), ry.dp L (canLay_shaped h.2), h.1, h.2, q _ H B .refl (.bl _)⟩
theorem v2_ne : V2 C (rNeD C.K) neD := by
  intro H B x y dx dy d Q L rx ry e q
  obtain ⟨h, rfl⟩ := if_some e
  exact ⟨dx, dy, rx.dp L (canLay_shaped h.1), ry.dp L (canLay_shaped h.2), h.1, h.2, q _ H B .refl (.bl _)⟩
/-- x in a list or a tuple of data -/
def anyE (d : D) (ds : List D) : Bool := ds.any fun z => PyData.eqv z d
def rInX (K : PySem.W.Frag) (neg : Bool) : R2 := fun x y H Q => ∃ d e ds, Dp K H x d ∧ Dp K H y e ∧ seqD e = some ds ∧ SeqAt.shaped d = true ∧ SeqAt.shaped e = true ∧ Q (.bl (if neg then !(anyE d ds) else anyE d ds)) H
theorem shaped_items {e : D} {ds : List D} (h : seqD e = some ds) (hs : SeqAt.shaped e = true) : PyData.canLayAll0 ds = true := by
  have := canLay_shaped hs
  cases e <;> cases h <;> simpa [PyData.canLay0] using this
theorem op_inX {X : Cx} (hu : X.A.units + 65 < cLine) : OpR X (compareOp .In) (rInX X.K false) := by
  intro pins s σ H x y v u Q I rx ry h
  obtain ⟨d, e, ds, hd, he, es, sd, se, q⟩ := h
  obtain ⟨as, r1⟩ := Dp.reads I d x v hd rx
  obtain ⟨bs, r2⟩ := Dp.reads I e y u he ry
  have hr := PyProof.Rows.room_in_shaped (xs := ds) sd hu
  have hi := shaped_items es se
  cases e with
  | list xs => cases es; exact SeqAt.in_list_reads r2 r1 hi (canLay_shaped sd) hr ⟨.bl _, H, I, rfl, q⟩
  | tuple xs => cases es; exact SeqAt.in_tuple_reads r2 r1 hi (canLay_shaped sd) hr ⟨.bl _, H, I, rfl, q⟩
  | _ => cases es
theorem op_notInX {X : Cx} (hu : X.A.units + 65 < cLine) : OpR X (compareOp .NotIn) (rInX X.K true) := by
  intro pins s σ H x y v u Q I rx ry h
  obtain ⟨d, e, ds, hd, he, es, sd, se, q⟩ := h
  obtain ⟨as, r1⟩ := Dp.reads I d x v hd rx
  obtain ⟨bs, r2⟩ := Dp.reads I e y u he ry
  have hr := PyProof.Rows.room_in_shaped (xs := ds) sd hu
  have hi := shaped_items es se
  cases e with
  | list xs => cases es; exact SeqAt.notIn_list_reads r2 r1 hi (canLay_shaped sd) hr ⟨.bl _, H, I, rfl, q⟩
  | tuple xs => cases es; exact SeqAt.notIn_tuple_reads r2 r1 hi (canLay_shaped sd) hr ⟨.bl _, H, I, rfl, q⟩
  | _ => cases es
def inD (neg : Bool) (x y : D) : Option D := if SeqAt.shaped x = true ∧ SeqAt.shaped y = true then (seqD y).map fun ds => .bool (if neg then !(anyE x ds) else anyE x ds) else none
theorem v2_in {neg : Bool} : V2 C (rInX C.K neg) (inD neg) := by
  intro H B x y dx dy d Q L rx ry e q
  have e : (if SeqAt.shaped dx = true ∧ SeqAt.shaped dy = true then (seqD dy).map fun ds => PyData.bool (if neg then !(anyE dx ds) else anyE dx ds) else none) = some d := e
  split at e
  · rename_i h
    cases es : seqD dy with
    | none => rw [es] at e; cases e
    | some ds =>
      rw [es] at e
      cases e
      exact ⟨dx, dy, ds, rx.dp L (canLay_shaped h.1), ry.dp L (canLay_shaped h.2), es, h.1, h.2, q _ H B .refl (.bl _)⟩
  · cases e

/-! ### items, parts -/
theorem Rps.atI {B : Hp} {vs : List V} {ds : List D} {i : Int} {d : D} (r : Rps C.K B vs ds) (h : L2.atI ds i = some d) : ∃ v, L2.atI vs i = some v ∧ Rp C.K B v d := by
  unfold L2.atI at h ⊢
  rw [r.length]
  cases e : ixN ds.length i with
  | none => rw [e] at h; cases h
  | some j => rw [e] at h; exact r.get' h
def ixD : D → D → Option D
  | .list xs, .int i => L2.atI xs i
  | .tuple xs, .int i => L2.atI xs i
  | .str x, .int i => if x.length ≤ sizeLine then (L2.atI x.cps.toList i).map fun c => .str ⟨#[c]⟩ else none
  | _, _ => none
theorem v2_ix : V2 C (rIx C.K) ixD := by
  intro H B x y dx dy d Q L rx ry e q
  cases rx with
  | lst hx rx =>
    cases ry with
    | int i => obtain ⟨v, e1, rp⟩ := rx.atI e; exact .inl ⟨_, _, i, v, rfl, rfl, SqL.of (L _ _ hx), e1, q _ H B .refl rp⟩
    | _ => cases e
  | tup hx rx =>
    cases ry with
    | int i => obtain ⟨v, e1, rp⟩ := rx.atI e; exact .inr (.inl ⟨_, _, i, v, rfl, rfl, SqT.of (L _ _ hx), e1, q _ H B .refl rp⟩)
    | _ => cases e
  | str z =>
    cases ry with
    | int i =>
      have e : (if z.length ≤ sizeLine then (L2.atI z.cps.toList i).map fun c => PyData.str ⟨#[c]⟩ else none) = some d := e
      split at e
      · rename_i hl
        cases e1 : L2.atI z.cps.toList i with
        | none => rw [e1] at e; cases e
        | some c =>
          rw [e1] at e
          cases e
          exact .inr (.inr ⟨z, i, c, rfl, rfl, hl, e1, q _ H B .refl (.str _)⟩)
      · cases e
    | _ => cases e
  | _ => cases e
/-- parts -/
def partM (f : M D) : M (Option Int) := bindM f fun d => match d with
  | .int i => pureM (some i)
  | _ => fun _ => .bad
def FinO (C : Ctx) (N : An) (σ : St) (B : Hp) (r : Res (Option Int)) (Q : Option Int → Hp → Prop) : Prop := match r with
  | .ok b g => ∀ H' B', Rep C N σ H' B' g → Le B B' → Q b H'
  | .exc n ct => ∀ cl H' B', Rep C N σ H' B' ⟨σ.map fun _ => Slot.no, ct⟩ → C.mg n = some (.ref cl) → C.E σ (.ref cl) none H'
  | .bad => False
def SatO (C : Ctx) (t : TO) (f : M (Option Int)) : Prop := ∀ N σ H B g (Q : Option Int → Hp → Prop), Rep C N σ H B g → FinO C N σ B (f g) Q → t σ H Q
theorem satO_no : SatO C tNoPart (pureM none) := fun N σ H B g Q R q => q H B R (.refl _)
theorem satO_part {t : TE} {f : M D} (h : Sat C t f) : SatO C (tPart t) (partM f) := by
  intro N σ H B g Q R q
  refine h.run (P := fun x => FinO C N σ B x Q) R q (fun n ct z => z) (fun z => z) fun d g' v H1 B1 _ R1 L1 rp1 q1 => ?_
  cases d with
  | int i => cases rp1; exact ⟨i, rfl, q1 H1 B1 R1 L1⟩
  | _ => exact q1.elim
theorem SatO.run {t : TO} {f : M (Option Int)} (h : SatO C t f) {N : An} {σ : St} {H B : Hp} {g : Sg} {Q : Option Int → Hp → Prop} (R : Rep C N σ H B g) {β : Type} {k : Option Int → M β} {P : Res β → Prop} (hf : P (bindM f k g))
    (hx : ∀ n ct, P (.exc n ct) → ∀ cl H' B', Rep C N σ H' B' ⟨σ.map fun _ => Slot.no, ct⟩ → C.mg n = some (.ref cl) → C.E σ (.ref cl) none H') (hb : ¬ P .bad)
    (hk : ∀ d g' H' B', Rep C N σ H' B' g' → Le B B' → P (k d g') → Q d H') : t σ H Q := by
  refine h N σ H B g Q R ?_
  have hf : P ((f g).bind k) := hf
  cases e : f g with
  | ok d g' => rw [e] at hf; exact fun H' B' R' L => hk d g' H' B' R' L hf
  | exc n ct => rw [e] at hf; exact hx n ct hf
  | bad => rw [e] at hf; exact hb hf
def cutL (xs : List D) (lo hi : Option Int) : List D := (xs.drop (HT.sIx xs.length 0 lo)).take (HT.sIx xs.length xs.length hi - HT.sIx xs.length 0 lo)
theorem Rps.cut {B : Hp} {vs : List V} {ds : List D} (r : Rps C.K B vs ds) (lo hi : Option Int) : Rps C.K B (cutV vs lo hi) (cutL ds lo hi) := by
  unfold cutL cutV
  rw [r.length]
  exact (r.drop _).take _
def cutD (d : D) (lo hi : Option Int) : Option D := match d with
  | .list xs => some (.list (cutL xs lo hi))
  | .tuple xs => some (.tuple (cutL xs lo hi))
  | _ => none
def sliceM (f : M D) (fl fh : M (Option Int)) : M D := bindM f fun d => bindM fl fun lo => bindM fh fun hi => liftO (cutD d lo hi)
theorem sl_seqX {X : Cx} : SlR X (fun x lo hi H Q => rSlL X.K x lo hi H Q ∨ rSlA X.K x lo hi H Q) := sl_list.or sl_tupA
theorem sat_slice {te : TE} {tl th : TO} {f : M D} {fl fh : M (Option Int)} (h : Sat C te f) (hl : SatO C tl fl) (hh : SatO C th fh) : Sat C (tSl (fun x lo hi H Q => rSlL C.K x lo hi H Q ∨ rSlA C.K x lo hi H Q) te tl th) (sliceM f fl fh) := by
  intro N σ H B g Q R q
  refine h.run (P := fun x => Fin C N σ B x Q) R q (fun n ct z => z) (fun z => z) fun d g' v H1 B1 _ R1 L1 rp1 q1 => ?_
  refine hl.run (P := fun x => Fin C N σ B x Q) R1 q1 (fun n ct z => z) (fun z => z) fun lo g2 H2 B2 R2 L2 q2 => ?_
  refine hh.run (P := fun x => Fin C N σ B x Q) R2 q2 (fun n ct z => z) (fun z => z) fun hi g3 H3 B3 R3 L3 q3 => ?_
  obtain ⟨d', e, q3⟩ := lift_fin R3 ((L1.trans L2).trans L3) q3
  have rp := (rp1.le L2).le L3
  cases rp with
  | lst hx r =>
    rename_i a1 vs1 ds1 _
    cases e
    refine .inl ⟨_, _, rfl, SqL.of (R3.sub _ _ hx), fun p hp => ?_⟩
    have G := Grow.upd (o := .lst (cutV vs1 lo hi)) hp R3.sub
    exact q3 _ _ _ G (.lst upd_same ((r.cut lo hi).le G.b))
  | tup hx r =>
    rename_i a1 vs1 ds1 _
    cases e
    refine .inr ⟨_, _, rfl, SqT.of (R3.sub _ _ hx), fun hw => ?_, fun hw p hp => ?_⟩
    · rw [r.length] at hw
      refine q3 _ _ _ .refl (.tup hx ?_)
      unfold cutL
      rw [hw.1, hw.2, List.drop_zero, Nat.sub_zero, List.take_length]
      exact r
    · have G := Grow.upd (o := .tup (cutV vs1 lo hi)) hp R3.sub
      exact q3 _ _ _ G (.tup upd_same ((r.cut lo hi).le G.b))
  | _ => cases e
/-- xs[::-1] -/
def revD (d : D) : Option D := match d with
  | .list xs => some (.list xs.reverse)
  | _ => none
theorem sat_rev {te : TE} {f : M D} (h : Sat C te f) : Sat C (tRevL C.K te) (op1 revD f) := by
  intro N σ H B g Q R q
  refine h.run (P := fun x => Fin C N σ B x Q) R q (fun n ct z => z) (fun z => z) fun d g' v H1 B1 _ R1 L1 rp1 q1 => ?_
  obtain ⟨d', e, q3⟩ := lift_fin R1 L1 q1
  cases rp1 with
  | lst hx r =>
    rename_i a1 vs1 ds1 _
    cases e
    refine ⟨_, _, rfl, SqL.of (R1.sub _ _ hx), fun p hp => ?_⟩
    have G := Grow.upd (o := .lst (List.reverse vs1)) hp R1.sub
    exact q3 _ _ _ G (.lst upd_same (r.reverse.le G.b))
  | _ => cases e
end
end DL

set_option Elab.async false
set_option linter.all false
set_option maxRecDepth 100000
set_option maxHeartbeats 4000000
namespace DL
open PySem PySem.Spec L2
open PyProof.Rows hiding St

/-! ### keys -/
def toKey : D → Option Key
  | .int i => some (.inl i)
  | .str x => some (.inr x)
  | _ => none
def toKeys : List D → Option (List Key)
  | [] => some []
  | d :: r => (toKey d).bind fun k => (toKeys r).map fun ks => k :: ks
theorem toKey_some {d : D} {k : Key} (h : toKey d = some k) : d = keyD k := by
  cases d <;> cases h <;> rfl
theorem toKey_keyD (k : Key) : toKey (keyD k) = some k := by cases k <;> rfl
theorem toKeys_some : ∀ {ds : List D} {ks : List Key}, toKeys ds = some ks → ds = ks.map keyD
  | [], ks, h => by cases h; rfl
  | d :: r, ks, h => by
    unfold toKeys at h
    cases e : toKey d with
    | none => rw [e] at h; cases h
    | some k =>
      rw [e] at h
      cases e2 : toKeys r with
      | none => rw [e2] at h; cases h
      | some ks' =>
        rw [e2] at h
        cases h
        rw [toKey_some e, toKeys_some e2]
        rfl
theorem toKeys_map (ks : List Key) : toKeys (ks.map keyD) = some ks := by
  induction ks with
  | nil => rfl
  | cons k r ih => rw [List.map_cons, toKeys, toKey_keyD, ih]; rfl
theorem Rp.key {K : PySem.W.Frag} {B : Hp} {v : V} {k : Key} (r : Rp K B v (keyD k)) : v = kV k := by
  cases k with
  | inl i => cases r; rfl
  | inr x => cases r; rfl
theorem Rps.keys {K : PySem.W.Frag} {B : Hp} : ∀ {ks : List Key} {vs : List V}, Rps K B vs (ks.map keyD) → vs = ks.map kV
  | [], _, .nil => rfl
  | k :: ks, _, .cons h r => by rw [h.key, Rps.keys r]; rfl
section
variable {κ : Type} [DecidableEq κ]
def valD (kvs : List (κ × D)) (k : κ) : Option D := (kvs.find? fun kv => decide (kv.1 = k)).map (·.2)
def putD (kvs : List (κ × D)) (k : κ) (v : D) : List (κ × D) :=
  if (kvs.any fun kv => decide (kv.1 = k)) = true then kvs.map (fun kv => if kv.1 = k then (kv.1, v) else kv) else kvs ++ [(k, v)]
end
/-- pairs that stand for pairs -/
inductive Rpd {κ : Type} (K : PySem.W.Frag) (B : Hp) : List (κ × V) → List (κ × D) → Prop
  | nil : Rpd K B [] []
  | cons {k : κ} {v : V} {vs : List (κ × V)} {d : D} {ds : List (κ × D)} : Rp K B v d → Rpd K B vs ds → Rpd K B ((k, v) :: vs) ((k, d) :: ds)
section
variable {K : PySem.W.Frag} {B : Hp}
theorem RpsT.pd : ∀ {vs : List (List Key × V)} {ds : List (List Key × D)}, RpsT K B vs ds → Rpd K B vs ds
  | _, _, .nil => .nil
  | _, _, .cons h r => .cons h r.pd
theorem RpsK.pd : ∀ {vs : List (Key × V)} {ds : List (Key × D)}, RpsK K B vs ds → Rpd K B vs ds
  | _, _, .nil => .nil
  | _, _, .cons h r => .cons h r.pd
theorem Rpd.toT : ∀ {vs : List (List Key × V)} {ds : List (List Key × D)}, Rpd K B vs ds → RpsT K B vs ds
  | _, _, .nil => .nil
  | _, _, .cons h r => .cons h r.toT
theorem Rpd.toK : ∀ {vs : List (Key × V)} {ds : List (Key × D)}, Rpd K B vs ds → RpsK K B vs ds
  | _, _, .nil => .nil
  | _, _, .cons h r => .cons h r.toK
variable {κ : Type}
theorem Rpd.length : ∀ {vs : List (κ × V)} {ds : List (κ × D)}, Rpd K B vs ds → vs.length = ds.length
  | _, _, .nil => rfl
  | _, _, .cons _ r => by rw [List.length_cons, List.length_cons, r.length]
theorem Rpd.append : ∀ {vs ws : List (κ × V)} {ds es : List (κ × D)}, Rpd K B vs ds → Rpd K B ws es → Rpd K B (vs ++ ws) (ds ++ es)
  | _, _, _, _, .nil, s => s
  | _, _, _, _, .cons h r, s => .cons h (r.append s)
variable [DecidableEq κ]
theorem Rpd.val : ∀ {vs : List (κ × V)} {ds : List (κ × D)}, Rpd K B vs ds → ∀ k, (valV vs k = none ∧ valD ds k = none) ∨ ∃ v d, valV vs k = some v ∧ valD ds k = some d ∧ Rp K B v d
  | _, _, .nil, k => .inl ⟨rfl, rfl⟩
  | _, _, .cons (k := k') h r, k => by
    by_cases e : k' = k
    · refine .inr ⟨_, _, ?_, ?_, h⟩
      · simp [valV, e]
      · simp [valD, e]
    · rcases r.val k with ⟨a, b⟩ | ⟨v, d, a, b, c⟩
      · exact .inl ⟨by simpa [valV, e] using a, by simpa [valD, e] using b⟩
      · exact .inr ⟨v, d, by simpa [valV, e] using a, by simpa [valD, e] using b, c⟩
theorem Rpd.any : ∀ {vs : List (κ × V)} {ds : List (κ × D)}, Rpd K B vs ds → ∀ k, (vs.any fun kv => decide (kv.1 = k)) = (ds.any fun kv => decide (kv.1 = k))
  | _, _, .nil, k => rfl
  | _, _, .cons _ r, k => by rw [List.any_cons, List.any_cons, r.any k]
theorem Rpd.mapPut {v : V} {d : D} (h : Rp K B v d) (k : κ) : ∀ {vs : List (κ × V)} {ds : List (κ × D)}, Rpd K B vs ds →
    Rpd K B (vs.map fun kv => if kv.1 = k then (kv.1, v) else kv) (ds.map fun kv => if kv.1 = k then (kv.1, d) else kv)
  | _, _, .nil => .nil
  | _, _, .cons (k := k') h' r => by
    rw [List.map_cons, List.map_cons]
    by_cases e : k' = k
    · simp only [e, if_true]; exact .cons h (Rpd.mapPut h k r)
    · simp only [e, if_false]; exact .cons h' (Rpd.mapPut h k r)
theorem Rpd.put {vs : List (κ × V)} {ds : List (κ × D)} (r : Rpd K B vs ds) {v : V} {d : D} (h : Rp K B v d) (k : κ) : Rpd K B (putK vs k v) (putD ds k d) := by
  unfold putK putD
  rw [r.any k]
  split
  · exact Rpd.mapPut h k r
  · exact r.append (.cons h .nil)
theorem Rpd.le {B' : Hp} (L : Le B B') : ∀ {vs : List (κ × V)} {ds : List (κ × D)}, Rpd K B vs ds → Rpd K B' vs ds
  | _, _, .nil => .nil
  | _, _, .cons h r => .cons (h.le L) (r.le L)
end
def toKeyT : D → Option (List Key)
  | .tuple ks => toKeys ks
  | _ => none
theorem toKeyT_some {d : D} {k : List Key} (h : toKeyT d = some k) : d = keyTD k := by
  cases d with
  | tuple ks => unfold keyTD; rw [toKeys_some h]
  | _ => cases h
theorem toKeyT_map (k : List Key) : toKeyT (keyTD k) = some k := toKeys_map k
def undD {κ : Type} (f : D → Option κ) : List (D × D) → Option (List (κ × D))
  | [] => some []
  | (k, v) :: r => (f k).bind fun k' => (undD f r).map fun ds => (k', v) :: ds
theorem undT_map (ds : List (List Key × D)) : undD toKeyT (ds.map fun p => (keyTD p.1, p.2)) = some ds := by
  induction ds with
  | nil => rfl
  | cons p r ih => rw [List.map_cons, undD, toKeyT_map, ih]; rfl
theorem undK_map (ds : List (Key × D)) : undD toKey (ds.map fun p => (keyD p.1, p.2)) = some ds := by
  induction ds with
  | nil => rfl
  | cons p r ih => rw [List.map_cons, undD, toKey_keyD, ih]; rfl
/-- what a shared dict gives for a key: not known where it is empty -/
def findD (d key : D) : Option (Option D) := match d with
  | .dict [] => none
  | .dict kvs => match toKeyT key with
    | some k => (undD toKeyT kvs).map fun ds => valD ds k
    | none => (toKey key).bind fun k => (undD toKey kvs).map fun ds => valD ds k
  | _ => none
theorem undD_none_K {ds : List (Key × D)} (h : ds ≠ []) : undD toKeyT (ds.map fun p => (keyD p.1, p.2)) = none := by
  cases ds with
  | nil => exact absurd rfl h
  | cons p r =>
    obtain ⟨k, v⟩ := p
    rw [List.map_cons, undD]
    cases k <;> rfl
theorem undD_none_T {ds : List (List Key × D)} (h : ds ≠ []) : undD toKey (ds.map fun p => (keyTD p.1, p.2)) = none := by
  cases ds with
  | nil => exact absurd rfl h
  | cons p r => rfl
section
variable {C : Ctx}
/-- a shared dict read -/
theorem Rp.find {H B : Hp} (L : Le B H) {x y : V} {d key : D} {o : Option D} (rx : Rp C.K B x d) (ry : Rp C.K B y key) (h : findD d key = some o) : ∃ a ov, x = .ref a ∧ IsD H a ∧ DGet H a y ov ∧ ((ov = none ∧ o = none) ∨ ∃ v e, ov = some v ∧ o = some e ∧ Rp C.K B v e) := by
  have fin : ∀ {κ : Type} [DecidableEq κ] {vs : List (κ × V)} {ds : List (κ × D)} {k : κ}, Rpd C.K B vs ds → valD ds k = o → (valV vs k = none ∧ o = none) ∨ ∃ v e, valV vs k = some v ∧ o = some e ∧ Rp C.K B v e := fun {κ _ vs ds k} r e => by
    rcases r.val k with ⟨a, b⟩ | ⟨v, d, a, b, c⟩
    · exact .inl ⟨a, e ▸ b⟩
    · exact .inr ⟨v, d, a, e ▸ b, c⟩
  cases rx with
  | dT ha r e =>
    rename_i a ks ds kvs
    subst e
    cases ds with
    | nil => cases h
    | cons p ds =>
      have h : (match toKeyT key with
        | some k => (undD toKeyT ((p :: ds).map fun p => (keyTD p.1, p.2))).map fun ds => valD ds k
        | none => (toKey key).bind fun k => (undD toKey ((p :: ds).map fun p => (keyTD p.1, p.2))).map fun ds => valD ds k) = some o := h
      cases e : toKeyT key with
      | none =>
        rw [e, undD_none_T (by simp)] at h
        cases e2 : toKey key with
        | none => rw [e2] at h; cases h
        | some k => rw [e2] at h; cases h
      | some k =>
        rw [e, undT_map] at h
        have hv : valD (p :: ds) k = o := Option.some.inj h
        obtain rfl := toKeyT_some e
        cases ry with
        | tup hb rk =>
          rw [rk.keys] at hb
          exact ⟨a, _, rfl, .inr ⟨_, .inl (L _ _ ha)⟩, .t (L _ _ ha) (L _ _ hb), fin r.pd hv⟩
  | dK ha r e =>
    rename_i a ks ds kvs
    subst e
    cases ds with
    | nil => cases h
    | cons p ds =>
      have h : (match toKeyT key with
        | some k => (undD toKeyT ((p :: ds).map fun p => (keyD p.1, p.2))).map fun ds => valD ds k
        | none => (toKey key).bind fun k => (undD toKey ((p :: ds).map fun p => (keyD p.1, p.2))).map fun ds => valD ds k) = some o := h
      cases e : toKeyT key with
      | some k => rw [e, undD_none_K (by simp)] at h; cases h
      | none =>
        rw [e] at h
        cases e2 : toKey key with
        | none => rw [e2] at h; cases h
        | some k =>
          rw [e2, undK_map] at h
          have hv : valD (p :: ds) k = o := Option.some.inj h
          obtain rfl := toKey_some e2
          rw [ry.key]
          exact ⟨a, _, rfl, .inl ⟨_, .inl (L _ _ ha)⟩, .k (L _ _ ha), fin r.pd hv⟩
  | _ => cases h
/-- d[k] of a shared dict -/
def dgetD (d key : D) : Option D := (findD d key).bind id
theorem sat_dget {td ty : TE} {f k : M D} (h : Sat C td f) (h2 : Sat C ty k) : Sat C (tDGet td ty) (op2 dgetD f k) := by
  intro N σ H B g Q R q
  refine h.run (P := fun x => Fin C N σ B x Q) R q (fun n ct z => z) (fun z => z) fun d g' v H1 B1 _ R1 L1 rp1 q1 => ?_
  refine h2.run (P := fun x => Fin C N σ B x Q) R1 q1 (fun n ct z => z) (fun z => z) fun d2 g2 v2 H2 B2 _ R2 L2 rp2 q2 => ?_
  obtain ⟨d3, e, q3⟩ := lift_fin R2 (L1.trans L2) q2
  unfold dgetD at e
  cases e1 : findD d d2 with
  | none => rw [e1] at e; cases e
  | some o =>
    rw [e1] at e
    have e : o = some d3 := e
    subst e
    obtain ⟨a, ov, rfl, _, g3, ⟨_, z⟩ | ⟨v3, e3, rfl, z, rp3⟩⟩ := (rp1.le L2).find R2.sub rp2 e1
    · cases z
    · cases z; exact ⟨a, v3, rfl, g3, q3 _ _ _ .refl rp3⟩
/-- d.get(k, x) of a shared dict -/
def dget2M (f k l : M D) : M D := bindM f fun d => bindM k fun key => bindM l fun z => liftO ((findD d key).map fun o => o.getD z)
theorem sat_dget2 {td ty tx : TE} {f k l : M D} (h : Sat C td f) (h2 : Sat C ty k) (h3 : Sat C tx l) (hd : ∀ g d g', f g = .ok d g' → ∃ kvs, d = .dict kvs) : Sat C (tDGet2 td ty tx) (dget2M f k l) := by
  intro N σ H B g Q R q
  refine h.run (P := fun x => Fin C N σ B x Q) R q (fun n ct z => z) (fun z => z) fun d g' v H1 B1 ef R1 L1 rp1 q1 => ?_
  have isd : ∃ a, v = .ref a ∧ IsD H1 a := by
    obtain ⟨kvs, rfl⟩ := hd _ _ _ ef
    cases rp1 with
    | dT ha _ _ => exact ⟨_, rfl, .inr ⟨_, .inl (R1.sub _ _ ha)⟩⟩
    | dK ha _ _ => exact ⟨_, rfl, .inl ⟨_, .inl (R1.sub _ _ ha)⟩⟩
  obtain ⟨a, rfl, ha⟩ := isd
  refine ⟨a, rfl, ha, ?_⟩
  refine h2.run (P := fun x => Fin C N σ B x Q) R1 q1 (fun n ct z => z) (fun z => z) fun d2 g2 v2 H2 B2 _ R2 L2 rp2 q2 => ?_
  refine h3.run (P := fun x => Fin C N σ B x Q) R2 q2 (fun n ct z => z) (fun z => z) fun d3 g3 v3 H3 B3 _ R3 L3 rp3 q3 => ?_
  obtain ⟨d4, e, q4⟩ := lift_fin R3 ((L1.trans L2).trans L3) q3
  cases e1 : findD d d2 with
  | none => rw [e1] at e; cases e
  | some o =>
    rw [e1] at e
    have e : o.getD d3 = d4 := Option.some.inj e
    obtain ⟨a', ov, e', _, g4, hh⟩ := ((rp1.le L2).le L3).find R3.sub (rp2.le L3) e1
    cases e'
    refine ⟨ov, g4, ?_⟩
    rcases hh with ⟨rfl, rfl⟩ | ⟨v4, e4, rfl, rfl, rp4⟩
    · exact q4 _ _ _ .refl (e ▸ rp3)
    · exact q4 _ _ _ .refl (e ▸ rp4)
/-- k in d, k not in d of a shared dict -/
def dinD (neg : Bool) (key d : D) : Option D := (findD d key).map fun o => .bool (if neg then !o.isSome else o.isSome)
theorem din_end {H B : Hp} {neg : Bool} {x y : V} {d key e : D} {Q : VK} (L : Le B H) (rx : Rp C.K B x d) (ry : Rp C.K B y key) (h : dinD neg key d = some e) (q : ∀ v H' B', Grow H B H' B' → Rp C.K B' v e → Q v H') : ∃ a o, x = .ref a ∧ DGet H a y o ∧ Q (.bl (if neg then !o.isSome else o.isSome)) H := by
  unfold dinD at h
  cases e1 : findD d key with
  | none => rw [e1] at h; cases h
  | some o =>
    rw [e1] at h
    cases h
    obtain ⟨a, ov, rfl, _, g3, hh⟩ := rx.find L ry e1
    refine ⟨a, ov, rfl, g3, ?_⟩
    rcases hh with ⟨rfl, rfl⟩ | ⟨v4, e4, rfl, rfl, rp4⟩
    · exact q _ _ _ .refl (.bl _)
    · exact q _ _ _ .refl (.bl _)
theorem sat_din {td ty : TE} {f k : M D} (h : Sat C ty k) (h2 : Sat C td f) : Sat C (tDIn ty td) (op2 (dinD false) k f) := by
  intro N σ H B g Q R q
  refine h.run (P := fun x => Fin C N σ B x Q) R q (fun n ct z => z) (fun z => z) fun d g' v H1 B1 _ R1 L1 rp1 q1 => ?_
  refine h2.run (P := fun x => Fin C N σ B x Q) R1 q1 (fun n ct z => z) (fun z => z) fun d2 g2 v2 H2 B2 _ R2 L2 rp2 q2 => ?_
  obtain ⟨d3, e, q3⟩ := lift_fin R2 (L1.trans L2) q2
  exact din_end R2.sub rp2 (rp1.le L2) e q3
theorem sat_dnotin {td ty : TE} {f k : M D} (h : Sat C ty k) (h2 : Sat C td f) : Sat C (tDNotIn ty td) (op2 (dinD true) k f) := by
  intro N σ H B g Q R q
  refine h.run (P := fun x => Fin C N σ B x Q) R q (fun n ct z => z) (fun z => z) fun d g' v H1 B1 _ R1 L1 rp1 q1 => ?_
  refine h2.run (P := fun x => Fin C N σ B x Q) R1 q1 (fun n ct z => z) (fun z => z) fun d2 g2 v2 H2 B2 _ R2 L2 rp2 q2 => ?_
  obtain ⟨d3, e, q3⟩ := lift_fin R2 (L1.trans L2) q2
  exact din_end R2.sub rp2 (rp1.le L2) e q3

/-! ### what a place alone knows -/
/-- the list that stands at a place: its own or a shared one -/
def seqAt (g : Sg) (i : Nat) : Option (List D) := match g.sl[i]? with
  | some (.own xs) => some xs
  | some (.dat d) => seqD d
  | _ => none
theorem Rep.seqAt {N : An} {σ : St} {H B : Hp} {g : Sg} (R : Rep C N σ H B g) {i : Nat} {xs : List D} (h : DL.seqAt g i = some xs) : ∃ q vs, σ[i]? = some (some (.ref (Sq.a q))) ∧ q.st C.K H vs ∧ Rps C.K B vs xs := by
  unfold DL.seqAt at h
  cases e : g.sl[i]? with
  | none => rw [e] at h; cases h
  | some s =>
    rw [e] at h
    have r := R.slots i s e
    cases s with
    | own ys =>
      cases h
      obtain ⟨p, vs, e1, n, hH, rp⟩ := r
      exact ⟨.L p, vs, getD_some e1, SqL.of hH, rp⟩
    | dat d =>
      obtain ⟨v, e1, rp⟩ := r
      obtain ⟨q, vs, rfl, hq, r⟩ := rp.seq h
      exact ⟨q, vs, getD_some e1, Sq.le R.sub hq, r⟩
    | _ => cases h
/-- len(x) -/
def lenV (i : Nat) : M D := fun g => match seqAt g i with
  | some xs => .ok (.int (xs.length : Nat)) g
  | none => .bad
abbrev rLen (K : PySem.W.Frag) : List V → Hp → VK → Prop := fun xs H Q => ∃ x n, xs = [x] ∧ LenV K x H n ∧ Q (.int n) H
theorem lenV_sq {K : PySem.W.Frag} {H : Hp} {q : Sq} {vs : List V} (h : q.st K H vs) : LenV K (.ref q.a) H vs.length := by
  cases q with
  | L a => exact .inl ⟨vs, h, rfl⟩
  | T a => exact .inr ⟨vs, h, rfl⟩
theorem sat_lenV {i : Nat} : Sat C (tCB (rLen C.K) (tCons (tVar i) tNil)) (lenV i) := by
  intro N σ H B g Q R q
  unfold lenV at q
  cases e : seqAt g i with
  | none => rw [e] at q; exact q.elim
  | some xs =>
    rw [e] at q
    obtain ⟨sq, vs, e1, hq, r⟩ := R.seqAt e
    exact ⟨_, e1, _, vs.length, rfl, lenV_sq hq, q _ H B R (.refl _) (by rw [r.length]; exact .int _)⟩
def lenD (ds : List D) : Option D := match ds with
  | [.str x] => if x.length ≤ sizeLine then some (.int (x.length : Nat)) else none
  | [d] => (seqD d).map fun xs => .int (xs.length : Nat)
  | _ => none
theorem vn_len : VN C (rLen C.K) lenD := by
  intro H B xs ds d Q L r e q
  cases r with
  | nil => cases e
  | cons a b =>
    cases b with
    | cons _ _ => cases a <;> cases e
    | nil =>
      rename_i v d0
      have go : ∀ ys, seqD d0 = some ys → some (PyData.int (ys.length : Nat)) = some d → ∃ x n, [v] = [x] ∧ LenV C.K x H n ∧ Q (.int n) H := fun ys ey ed => by
        cases ed
        obtain ⟨sq, vs, rfl, hq, rr⟩ := a.seq ey
        exact ⟨_, vs.length, rfl, lenV_sq (Sq.le L hq), q _ H B .refl (by rw [rr.length]; exact .int _)⟩
      cases a with
      | str x =>
        obtain ⟨hl, rfl⟩ := if_some (show (if x.length ≤ sizeLine then some (PyData.int (x.length : Nat)) else none) = some d from e)
        exact ⟨_, x.length, rfl, ⟨hl, rfl⟩, q _ H B .refl (.int _)⟩
      | lst hb rr => exact go _ rfl e
      | tup hb rr => exact go _ rfl e
      | _ => cases e
/-- x[k] -/
def ixV (i : Nat) (f : M D) : M D := fun g => match seqAt g i with
  | some _ => bindM f (fun k g' => match seqAt g' i, k with
    | some xs, .int j => liftO (L2.atI xs j) g'
    | _, _ => .bad) g
  | none => .bad
theorem sat_ixV {i : Nat} {tb : TE} {f : M D} (h : Sat C tb f) : Sat C (tOp (rIx C.K) (tVar i) tb) (ixV i f) := by
  intro N σ H B g Q R q
  unfold ixV at q
  cases e : seqAt g i with
  | none => rw [e] at q; exact q.elim
  | some xs =>
    rw [e] at q
    obtain ⟨sq, vs, e1, hq, r⟩ := R.seqAt e
    refine ⟨_, e1, ?_⟩
    refine h.run (P := fun x => Fin C N σ B x Q) R q (fun n ct z => z) (fun z => z) fun d g' v H1 B1 _ R1 L1 rp1 q1 => ?_
    cases e2 : seqAt g' i with
    | none => simp only [e2] at q1; exact q1.elim
    | some ys =>
      simp only [e2] at q1
      obtain ⟨sq2, ws, e3, hq2, r2⟩ := R1.seqAt e2
      rw [e1] at e3
      have ea : Sq.a sq = Sq.a sq2 := by injection e3 with z; injection z with z; injection z
      cases d with
      | int j =>
        cases rp1
        obtain ⟨d3, e4, q3⟩ := lift_fin R1 L1 q1
        obtain ⟨u, e5, rp⟩ := r2.atI e4
        rw [ea]
        cases sq2 with
        | L a => exact .inl ⟨_, ws, j, u, rfl, rfl, hq2, e5, q3 _ _ _ .refl rp⟩
        | T a => exact .inr (.inl ⟨_, ws, j, u, rfl, rfl, hq2, e5, q3 _ _ _ .refl rp⟩)
      | _ => exact q1.elim
/-- an own list changes: the place's list is another one from now on -/
theorem Rep.write {N : An} {σ : St} {H B : Hp} {g : Sg} (R : Rep C N σ H B g) {i : Nat} {s s' : Slot} {p : Addr} {o : HO} (hi : g.sl[i]? = some s) (hs : s.isOwn = true) (hp : σ[i]? = some (some (.ref p))) (hB : B p = none)
    (hr : RepSlot C B (upd H p o) s' (some (.ref p))) : Rep C N σ (upd H p o) B { g with sl := g.sl.set i s' } := by
  have h0 : N.H0 p = none := R.ownNew i p ⟨s, hi, hs⟩ hp
  have R1 : Rep C N σ H B { g with sl := g.sl.set i .no } := R.put i rfl rfl (fun _ _ => rfl) trivial
  have so : ∀ j : Nat, ownAt (g.sl.set i Slot.no) j → σ[j]? ≠ some (some (.ref p)) := fun j hj e => by
    rcases ownAt_set hj with ⟨_, z⟩ | ⟨z1, hj⟩
    · cases z
    · exact R.sep i j p (Ne.symm z1) ⟨s, hi, hs⟩ hj hp e
  have R2 := R1.mut (o := o) hB h0 so
  have R3 := R2.setOwn i (s := s') hr h0 so
  have hil : i < σ.length := (List.getElem?_eq_some_iff.mp hp).1
  have e1 : σ.set i (some (.ref p)) = σ := by
    apply List.ext_getElem?
    intro j
    by_cases e : i = j
    · subst e; rw [List.getElem?_set_self hil, hp]
    · rw [List.getElem?_set_ne e]
  rw [e1] at R3
  simpa [List.set_set] using R3
/-- x.append(e) -/
def appM (i : Nat) (f : M D) : M Fl := fun g => match g.sl[i]? with
  | some (.own _) => bindM f (fun d g' => match g'.sl[i]? with
    | some (.own xs) => if xs.length < sizeLine then .ok .next { g' with sl := g'.sl.set i (.own (xs ++ [d])) } else .bad
    | _ => .bad) g
  | _ => .bad
theorem satS_app {i : Nat} {te : TE} {f : M D} (h : Sat C te f) : SatS C (tDrop (tBM C.K "list" rAppend (tVar i) (tCons te tNil))) (appM i f) := by
  intro N σ H B g D R q
  unfold appM at q
  cases e : g.sl[i]? with
  | none => rw [e] at q; exact q.elim
  | some s =>
    rw [e] at q
    cases s with
    | own xs0 =>
      obtain ⟨p, vs0, e1, n0, hH0, r0⟩ := R.slots i _ e
      refine ⟨_, getD_some e1, .inl ⟨rfl, _, SqL.of hH0⟩, ?_⟩
      refine h.toS R q fun d g' v H1 B1 _ R1 L1 rp1 q1 => ?_
      cases e2 : g'.sl[i]? with
      | none => simp only [e2] at q1; exact q1.elim
      | some s =>
        simp only [e2] at q1
        cases s with
        | own xs =>
          obtain ⟨p', vs, e3, n, hH, r⟩ := R1.slots i _ e2
          rw [e1] at e3
          cases e3
          by_cases hl : xs.length < sizeLine
          · simp only [hl, if_true] at q1
            refine ⟨p, vs, v, rfl, rfl, hH, by rw [r.length]; exact hl, ?_⟩
            exact q1 σ _ B1 (R1.write e2 rfl (getD_some e1) n ⟨p, _, rfl, n, upd_same, r.append (.one rp1)⟩) L1
          · simp only [hl, if_false] at q1; exact q1.elim
        | _ => exact q1.elim
    | _ => exact q.elim
/-- x.extend(e), e a list -/
def extM (i : Nat) (f : M D) : M Fl := fun g => match g.sl[i]? with
  | some (.own _) => bindM f (fun d g' => match g'.sl[i]?, d with
    | some (.own xs), .list ys => if xs.length + ys.length ≤ sizeLine then .ok .next { g' with sl := g'.sl.set i (.own (xs ++ ys)) } else .bad
    | _, _ => .bad) g
  | _ => .bad
theorem satS_ext {i : Nat} {te : TE} {f : M D} (h : Sat C te f) : SatS C (tDrop (tBM C.K "list" rExtend (tVar i) (tCons te tNil))) (extM i f) := by
  intro N σ H B g D R q
  unfold extM at q
  cases e : g.sl[i]? with
  | none => rw [e] at q; exact q.elim
  | some s =>
    rw [e] at q
    cases s with
    | own xs0 =>
      obtain ⟨p, vs0, e1, n0, hH0, r0⟩ := R.slots i _ e
      refine ⟨_, getD_some e1, .inl ⟨rfl, _, SqL.of hH0⟩, ?_⟩
      refine h.toS R q fun d g' v H1 B1 _ R1 L1 rp1 q1 => ?_
      cases e2 : g'.sl[i]? with
      | none => simp only [e2] at q1; exact q1.elim
      | some s =>
        simp only [e2] at q1
        cases s with
        | own xs =>
          cases rp1 with
          | lst hb rb =>
            rename_i b ws ys _
            obtain ⟨p', vs, e3, n, hH, r⟩ := R1.slots i _ e2
            rw [e1] at e3
            cases e3
            by_cases hl : xs.length + ys.length ≤ sizeLine
            · simp only [hl, if_true] at q1
              refine ⟨p, b, vs, ws, rfl, rfl, hH, R1.sub _ _ hb, by rw [r.length, rb.length]; exact hl, ?_⟩
              exact q1 σ _ B1 (R1.write e2 rfl (getD_some e1) n ⟨p, _, rfl, n, upd_same, r.append rb⟩) L1
            · simp only [hl, if_false] at q1; exact q1.elim
          | _ => exact q1.elim
        | _ => exact q1.elim
    | _ => exact q.elim
/-- x.pop(k) -/
def popM (i : Nat) (f : M D) : M D := fun g => match g.sl[i]? with
  | some (.own _) => bindM f (fun d g' => match g'.sl[i]?, d with
    | some (.own xs), .int k => if -(2 ^ 63) ≤ k ∧ k < 2 ^ 63 then (match seqIndex? k xs.length with
      | some j => (match xs[j]? with
        | some y => .ok y { g' with sl := g'.sl.set i (.own (xs.eraseIdx j)) }
        | none => .bad)
      | none => .bad) else .bad
    | _, _ => .bad) g
  | _ => .bad
theorem sat_pop {i : Nat} {te : TE} {f : M D} (h : Sat C te f) : Sat C (tBM C.K "list" rPopAt (tVar i) (tCons te tNil)) (popM i f) := by
  intro N σ H B g Q R q
  unfold popM at q
  cases e : g.sl[i]? with
  | none => rw [e] at q; exact q.elim
  | some s =>
    rw [e] at q
    cases s with
    | own xs0 =>
      obtain ⟨p, vs0, e1, n0, hH0, r0⟩ := R.slots i _ e
      refine ⟨_, getD_some e1, .inl ⟨rfl, _, SqL.of hH0⟩, ?_⟩
      refine h.run (P := fun x => Fin C N σ B x Q) R q (fun n ct z => z) (fun z => z) fun d g' v H1 B1 _ R1 L1 rp1 q1 => ?_
      cases e2 : g'.sl[i]? with
      | none => simp only [e2] at q1; exact q1.elim
      | some s =>
        simp only [e2] at q1
        cases s with
        | own xs =>
          cases rp1 with
          | int k =>
            obtain ⟨p', vs, e3, n, hH, r⟩ := R1.slots i _ e2
            rw [e1] at e3
            cases e3
            by_cases hk : -(2 ^ 63) ≤ k ∧ k < 2 ^ 63
            · simp only [hk, and_self, if_true] at q1
              cases e4 : seqIndex? k xs.length with
              | none => simp only [e4] at q1; exact q1.elim
              | some j =>
                simp only [e4] at q1
                cases e5 : xs[j]? with
                | none => simp only [e5] at q1; exact q1.elim
                | some y =>
                  simp only [e5] at q1
                  obtain ⟨w, e6, rp⟩ := r.get' e5
                  refine ⟨p, vs, k, j, w, rfl, rfl, hH, hk.1, hk.2, by rw [r.length]; exact e4, e6, ?_⟩
                  exact q1 w _ B1 (R1.write e2 rfl (getD_some e1) n ⟨p, _, rfl, n, upd_same, r.eraseIdx j⟩) L1 rp
            · simp only [hk, if_false] at q1; exact q1.elim
          | _ => exact q1.elim
        | _ => exact q1.elim
    | _ => exact q.elim
/-- x.pop() -/
def pop0M (i : Nat) : M D := fun g => match g.sl[i]? with
  | some (.own xs) => (match xs[xs.length - 1]? with
    | some y => .ok y { g with sl := g.sl.set i (.own xs.dropLast) }
    | none => .bad)
  | _ => .bad
theorem Rps.dropLast : ∀ {K : PySem.W.Frag} {B : Hp} {vs : List V} {ds : List D}, Rps K B vs ds → Rps K B vs.dropLast ds.dropLast := fun {K B vs ds} r => by
  rw [List.dropLast_eq_take, List.dropLast_eq_take, r.length]; exact r.take _
theorem sat_pop0 {i : Nat} : Sat C (tBM0 C.K "list" rPop (tVar i)) (pop0M i) := by
  intro N σ H B g Q R q
  unfold pop0M at q
  cases e : g.sl[i]? with
  | none => rw [e] at q; exact q.elim
  | some s =>
    rw [e] at q
    cases s with
    | own xs =>
      obtain ⟨p, vs, e1, n, hH, r⟩ := R.slots i _ e
      cases e5 : xs[xs.length - 1]? with
      | none => simp only [e5] at q; exact q.elim
      | some y =>
        simp only [e5] at q
        obtain ⟨w, e6, rp⟩ := r.get' e5
        refine ⟨_, getD_some e1, .inl ⟨rfl, _, SqL.of hH⟩, p, vs, w, rfl, rfl, hH, by rw [r.length]; exact e6, ?_⟩
        exact q w _ B (R.write e rfl (getD_some e1) n ⟨p, _, rfl, n, upd_same, r.dropLast⟩) (.refl _) rp
    | _ => exact q.elim
end
end DL

set_option Elab.async false
set_option linter.all false
set_option maxRecDepth 100000
set_option maxHeartbeats 4000000
/-! DL8: dicts whose keys are tuples: comprehensions, displays of one pair; own dicts as data -/
namespace DL
open PySem PySem.Spec L2
open PyProof.Rows hiding St

/-! ### {k: v for ..}, the keys tuples -/
section
variable {X : Cx}
/-- a pair stored by a comprehension -/
theorem keep_pair {pins : List (Addr × Obj)} {σ : St} {H : Hp} {s : Shared} {E : Value → Shared → Prop} {p b : Addr} {kvs : List (List Key × V)} {k : List Key} {v : V} {r : Value} {Q : Unit → Shared → Prop} (hu : X.A.units + 1 < cLine) (I : Inv X pins σ H s)
    (hp : H p = some (.dT kvs)) (hb : H b = some (.tup (k.map kV))) (hz : kvs.length < sizeLine) (rv : RelV v r) (q : ∀ s', Inv X pins σ (upd H p (.dT (putK kvs k v))) s' → Q () s') : wpAny (model X.prog X.w) X.A (dictSet p (.ref b) r) Q E s := by
  obtain ⟨z, hd, xs, rel, dd⟩ := dt_of I.hok hp
  have few : xs.length ≤ sizeLine := (Paired.length rel).symm ▸ z
  have few' : (putK kvs k v).length ≤ sizeLine := Nat.le_trans (length_putK kvs k v) hz
  refine wpAny_dictSet_heap (hsz := few) (show X.A.units < cLine from Nat.lt_of_succ_lt hu) (key_of I.hok hb) dd fun h' ⟨o, es, ep, e1, e2, e3, e4, _, e5⟩ same => q _ ?_
  refine d_write I (by rw [hp]; trivial) same ⟨o, e1⟩ ⟨few', hd, _, (rel.put k hb rv).keeps fun c ys ec => ?_, o, es, ep, e1, e2, e3, e4, e5⟩
  exact (upd_ne (ne_of ec hp (fun z => nomatch z))).trans ec
def tDcT (wi : TI) (g : TG) (tt : TT) (tk tv : TE) (vs : List Nat) : TE := fun σ H Q => wi σ H fun J H1 => ∀ D, H1 D = none → ∃ W : Nat → Nat → Hp → Prop, (∃ m, W 0 m (upd H1 D (.dT []))) ∧ ∀ i m H, W i m H →
  (J.stop i H ∧ Q (.ref D) H) ∨ (J.go i H ∧ ∃ Nx : Hp → Prop, (∀ H', Nx H' → ∃ m', m' < m ∧ W (i + 1) m' H') ∧ ∀ x H', J.yld i H x H' → g x (wipe σ vs) H' fun σ2 H2 => wipe σ2 vs = wipe σ vs ∧ tt σ2 H2 fun b H3 =>
    if b = true then tk σ2 H3 fun y H4 => tv σ2 H4 fun z H5 => ∃ kvs k c, y = .ref c ∧ H5 c = some (.tup (k.map kV)) ∧ H5 D = some (.dT kvs) ∧ kvs.length < sizeLine ∧ Nx (upd H5 D (.dT (putK kvs k z))) else Nx H3)
/-- what a comprehension's block is told of its iterator's own cells, through the block -/
theorem blk_cells {s : Shared} {H : Hp} {scope : Scope} {ce : Env} {fp : List Addr} {σ : St} {H' : Hp} {s' : Shared} (I : Inv (X.blk s H scope ce fp) [] σ H' s') (hn : ∀ b ∈ fp, H' b = none) : ∀ b ∈ fp, FpOk (X.blk s H scope ce fp) [] H' b :=
  fun b hb => ⟨hn b hb, (I.ok.exf b hb).1, I.ok.exfs b hb, .inl hb, fun x c e => (I.ok.exf b hb).2 x c e, fun p hp => nomatch (show p ∈ ([] : List (Addr × Obj)) from hp)⟩
theorem dcT_core {pins : List (Addr × Obj)} {s : Shared} {σ : St} {H : Hp} {Q : VK} {use : Option (Value → Sem Unit)} {Qf : Value → Shared → Prop} {pos' : Pos} {kx vx tg iter : Expr} {ifs : List Expr} {scope : Scope} {own : List (Str × Nat)} {pos : Pos} {wi : TI} {g : TG} {tt : TT} {tk tv : TE} (hu : X.A.units + 1 < cLine) (hc : X.calm = true) (hN : X.N.Nodup) (I : Inv X pins σ H s) (hi : PI X tg iter wi) (ok : BlkOk X.N X.env.scope scope own)
    (hg : ∀ (s : Shared) (H : Hp) (C : Addr) (cl : List (Str × Addr)) (fp : List Addr), PG (X.blk s H scope (compEnvC scope cl C X.env) fp) tg g) (ht : ∀ (s : Shared) (H : Hp) (C : Addr) (cl : List (Str × Addr)) (fp : List Addr), PTs (X.blk s H scope (compEnvC scope cl C X.env) fp) ifs tt)
    (hk : ∀ (s : Shared) (H : Hp) (C : Addr) (cl : List (Str × Addr)) (fp : List Addr), PE (X.blk s H scope (compEnvC scope cl C X.env) fp) kx tk)
    (he : ∀ (s : Shared) (H : Hp) (C : Addr) (cl : List (Str × Addr)) (fp : List Addr), PE (X.blk s H scope (compEnvC scope cl C X.env) fp) vx tv) (hs : ∀ x, foldedSetIterable iter X.env x = pure x) (h : tDcT wi g tt tk tv (own.map (·.2)) σ H Q)
    (hRR : ∀ D C s' m H', Inv X pins σ H' s' → Q (.ref D) H' → s'.heap.Ns C m → FpOk X pins H' C → compPost (model X.prog X.w) X.A X.xe use Qf (.ref D) C (.ok .next) s') :
    wpAny (model X.prog X.w) X.A (comprehension (.DictComp kx vx [⟨tg, iter, ifs, 0⟩] scope pos) scope X.env pos' newDict false (eval iter X.env) use) Qf X.xe s := by
  have hfree : ∀ y ∈ scope.names, y.2 = .free → ∃ c, X.env.cells.lookup y.1 = some c := fun y hy e => (ok.free y hy e).elim (fun k => I.ok.has _ (.inl k)) fun k => I.ok.has _ (.inr k)
  refine wpAny_comprehension_free (use := use) rfl hs (closure_ok hfree) ok.kind (fun y hy e => by rw [ok.uniq y hy, e]) (thn (hi.run pins s σ H _ I h) fun xv s1 hx => thn hx fun itv s2 h2 => ?_)
  obtain ⟨it, fp, tn, J, H2, rfl, I2, T, st2, f2, q⟩ := h2
  refine wpAny_newObj_type (newEnv_comp ?_)
  have hDn : H2 s2.heap.objs.size = none := I2.hok.fresh (Nat.le_refl _)
  obtain ⟨W, ⟨m0, w0⟩, turn⟩ := q _ hDn
  have I3 : Inv X pins σ (upd H2 s2.heap.objs.size (.dT [])) { s2 with heap := s2.heap.push { cls := .type "dict", data := .dict #[] } } :=
    I2.laid (t' := s2.toks) (fun b o e => Heap.get?_push_of_some _ e) (Nat.le_refl _) (dt_empty s2.heap I2.big)
  have old : ∀ b ∈ fp, b < s2.heap.objs.size := fun b hb => let ⟨_, e, _⟩ := T.obj _ _ st2 b hb; Heap.lt_size e
  generalize hD : s2.heap.objs.size = D at *
  generalize hs3 : ({ s2 with heap := s2.heap.push { cls := .type "dict", data := .dict #[] } } : Shared) = s3 at *
  have h3 : s3.heap = s2.heap.push { cls := .type "dict", data := .dict #[] } := by rw [← hs3]
  have f3 : ∀ b ∈ fp, FpOk X pins (upd H2 D (.dT [])) b ∧ b < s3.heap.objs.size := fun b hb => by
    have lt := old b hb
    exact ⟨⟨(upd_ne (Nat.ne_of_lt lt)).trans (f2 b hb).1, (f2 b hb).2⟩, by rw [h3, Heap.size_push, hD]; exact Nat.lt_succ_of_lt lt⟩
  have st3 : tn 0 s3.heap := T.keep _ _ _ st2 fun b _ o e => by rw [h3]; exact Heap.get?_push_of_some _ e
  have I4 := block_start I3 ok hN f3
  have pg := hg s3 (upd H2 D (.dT [])) s3.heap.objs.size (cellsFrom (s3.heap.objs.size + 1) scope.names (cloFrom X.env.cells scope.names [])) fp
  have pt := ht s3 (upd H2 D (.dT [])) s3.heap.objs.size (cellsFrom (s3.heap.objs.size + 1) scope.names (cloFrom X.env.cells scope.names [])) fp
  have pk := hk s3 (upd H2 D (.dT [])) s3.heap.objs.size (cellsFrom (s3.heap.objs.size + 1) scope.names (cloFrom X.env.cells scope.names [])) fp
  have pe := he s3 (upd H2 D (.dT [])) s3.heap.objs.size (cellsFrom (s3.heap.objs.size + 1) scope.names (cloFrom X.env.cells scope.names [])) fp
  have nfp : ∀ b ∈ fp, (upd H2 D (.dT [])) b = none := fun b hb => (f3 b hb).1.1
  show codeAny _ _ (.compStart (.DictComp kx vx [⟨tg, iter, ifs, 0⟩] scope pos) 0 (.ref it) (.ref D) (compEnvC scope (cellsFrom (s3.heap.objs.size + 1) scope.names (cloFrom X.env.cells scope.names [])) s3.heap.objs.size X.env)) (compPost (model X.prog X.w) X.A X.xe use Qf (.ref D) s3.heap.objs.size) { s3 with heap := pushCells (s3.heap.push { cls := .type "dict", data := .dict #[] }) scope.names }
  generalize hce : compEnvC scope (cellsFrom (s3.heap.objs.size + 1) scope.names (cloFrom X.env.cells scope.names [])) s3.heap.objs.size X.env = ce at I4 pg pt pk pe ⊢
  have cL : ce.locals = s3.heap.objs.size := by subst hce; rfl
  generalize hH3 : upd H2 D (.dT []) = H3 at I3 I4 pg pt pk pe w0 nfp f3
  generalize hs4 : ({ s3 with heap := pushCells (s3.heap.push { cls := .type "dict", data := .dict #[] }) scope.names } : Shared) = s4 at I4 ⊢
  have st4 : tn 0 s4.heap := T.keep _ _ _ st3 fun b _ o e => by rw [← hs4]; exact pushCells_keeps _ _ _ _ (Heap.get?_push_of_some _ e)
  have loop : codeAny (model X.prog X.w) X.A (.compLoop (.DictComp kx vx [⟨tg, iter, ifs, 0⟩] scope pos) 0 (.ref it) (.ref D) ce) (compPost (model X.prog X.w) X.A X.xe use Qf (.ref D) s3.heap.objs.size) s4 := by
    refine compLoop_anyD (fun n s' => ∃ i H', Inv (X.blk s3 H3 scope ce fp) [] (wipe σ (own.map (·.2))) H' s' ∧ tn i s'.heap ∧ (∀ b ∈ fp, H' b = none) ∧ W i n H') ?_ m0 ⟨0, H3, I4, st4, nfp, w0⟩
    rintro n s5 ⟨i, H5, I5, st5, n5, w5⟩
    rcases turn i n H5 w5 with ⟨stop, qq⟩ | ⟨go, Nx, hNx, step⟩
    · refine thnF (T.done (X.blk s3 H3 scope ce fp) rfl rfl rfl hc i [] s5 _ H5 (fun _ _ => False) I5 (blk_cells I5 n5) st5 stop) fun r s6 ⟨hr, I6⟩ => ?_
      subst hr
      have I7 : Inv X pins σ H5 s6 := I3.call' (ch := fp) I6.os I6.base I6.hok I6.bare fun b hb => let z := (f3 b hb).1; ⟨z.2.2.2.1, z.2.1, z.2.2.2.2.1, z.2.2.2.2.2⟩
      have nC : H5 s3.heap.objs.size = none := cL ▸ (show H5 ce.locals = none from I6.free)
      obtain ⟨m, hn, _⟩ := I6.loc
      have hn : s6.heap.Ns s3.heap.objs.size m := cL ▸ (show s6.heap.Ns ce.locals m from hn)
      exact hRR D s3.heap.objs.size s6 m H5 I7 qq hn (I3.fpOk (Nat.le_refl _) nC)
    · refine thnF (T.item (X.blk s3 H3 scope ce fp) rfl rfl rfl hc i [] s5 _ H5 (fun _ _ => False) I5 (blk_cells I5 n5) st5 go) fun r s6 ⟨u, hr, h6⟩ => ?_
      subst hr
      refine thnF h6 fun _ s7 ⟨x, H7, I7, r7, y7, st7, n7⟩ => ?_
      refine thnF (pg.run _ s7 _ H7 x u _ (I7.pinned (blk_cells I7 n7) (T.obj _ _ st7)) r7 (step x H7 y7)) fun _ s8 ⟨σ8, H8, I8, hw8, q8⟩ => ?_
      refine thnF (pt.run _ s8 σ8 H8 _ I8 q8) fun b s9 ⟨H9, I9, q9⟩ => ?_
      have fin : ∀ {s' : Shared} {H' : Hp}, Inv (X.blk s3 H3 scope ce fp) ([] ++ pinsAt fp s7.heap) σ8 H' s' → Nx H' → ∃ m, m < n ∧ ∃ i H', Inv (X.blk s3 H3 scope ce fp) [] (wipe σ (own.map (·.2))) H' s' ∧ tn i s'.heap ∧ (∀ b ∈ fp, H' b = none) ∧ W i m H' := fun {s' H'} I' nx => by
        obtain ⟨m', hm, w'⟩ := hNx H' nx
        have pin' : ∀ b ∈ fp, ∀ o, s7.heap.get? b = some o → s'.heap.get? b = some o ∧ H' b = none := fun b hb o e =>
          have z := I'.pin (b, o) (List.mem_append_right _ (List.mem_append_right _ (mem_pinsAt hb e)))
          ⟨z.1, z.2.1⟩
        refine ⟨m', hm, i + 1, H', (I'.unpinned (pins := [])).weak (by rw [← hw8, wipe_length]) (fun j v e => (wipe_some (hw8 ▸ e)).1), T.keep _ _ _ st7 fun b hb o e => (pin' b hb o e).1, fun b hb => ?_, w'⟩
        obtain ⟨o, e, _⟩ := T.obj _ _ st7 b hb
        exact (pin' b hb o e).2
      cases b with
      | false =>
        rw [if_neg Bool.false_ne_true] at q9 ⊢
        exact fin I9 q9
      | true =>
        rw [if_pos rfl] at q9 ⊢
        refine thnF (pk.run _ s9 σ8 H9 _ I9 q9) fun z s10 ⟨yk, H10, I10, r10, q10⟩ => ?_
        refine thnF (pe.run _ s10 σ8 H10 _ I10 q10) fun z2 s11 ⟨yv, H11, I11, r11, kvs, k, c, ek, hk11, hD11, hz11, nx⟩ => ?_
        subst ek
        cases r10
        exact keep_pair (X := X.blk s3 H3 scope ce fp) hu I11 hD11 hk11 hz11 r11 fun s12 I12 => fin I12 nx
  exact codeAny_compStart_dict loop (T.self X.A 0 _ _ _ st4 loop)
theorem pe_dcT {kx vx tg iter : Expr} {ifs : List Expr} {scope : Scope} {own : List (Str × Nat)} {pos : Pos} {wi : TI} {g : TG} {tt : TT} {tk tv : TE} (hu : X.A.units + 1 < cLine) (hc : X.calm = true) (hN : X.N.Nodup) (hi : PI X tg iter wi) (ok : BlkOk X.N X.env.scope scope own)
    (hg : ∀ (s : Shared) (H : Hp) (C : Addr) (cl : List (Str × Addr)) (fp : List Addr), PG (X.blk s H scope (compEnvC scope cl C X.env) fp) tg g) (ht : ∀ (s : Shared) (H : Hp) (C : Addr) (cl : List (Str × Addr)) (fp : List Addr), PTs (X.blk s H scope (compEnvC scope cl C X.env) fp) ifs tt)
    (hk : ∀ (s : Shared) (H : Hp) (C : Addr) (cl : List (Str × Addr)) (fp : List Addr), PE (X.blk s H scope (compEnvC scope cl C X.env) fp) kx tk)
    (he : ∀ (s : Shared) (H : Hp) (C : Addr) (cl : List (Str × Addr)) (fp : List Addr), PE (X.blk s H scope (compEnvC scope cl C X.env) fp) vx tv) (hs : ∀ x, foldedSetIterable iter X.env x = pure x := by intro _; rfl) :
    PE X (.DictComp kx vx [⟨tg, iter, ifs, 0⟩] scope pos) (tDcT wi g tt tk tv (own.map (·.2))) := by
  refine ⟨fun pins s σ H Q I h => ?_⟩
  rw [arm_eval_DictComp]
  refine dcT_core hu hc hN I hi ok hg ht hk he hs h fun D C s' m H' I' q hn f => ⟨m, hn, fun h'' sb => ?_⟩
  obtain ⟨f0, f1, f2, f3, f4, f5⟩ := f
  exact ⟨.ref D, H', I'.turned (t' := s'.toks) (fun b o hb e => (sb.2 b hb).trans e) f0 f1 f3 f4 f5, rfl, q⟩
theorem sw_trueD {kx vx : Expr} {gs : List Comprehension} {scope : Scope} {pos py : Pos} {y : Str} {l : Nat} {env : Env} (hk : env.scope.kind = .function) (hy : env.scope.names.lookup y = some .local) (hl : (py.line == pos.line) = true)
    (ha : (scope.names.any fun (n, k) => n == y && (k == .local || k == .cell)) = false) : swapsWith (.DictComp kx vx gs scope pos) (some (.Name y py)) l env = pure true := by
  have ky : env.kindOf y = some .local := hy
  have hb : env.blockKind = .function := by unfold Env.blockKind; rw [hk]; rfl
  unfold swapsWith
  simp only [hb, ky, ha, Expr.pos, hl]
  rfl
theorem ps_setDcT {i : Nat} {y : Str} {py spos : Pos} {kx vx tg iter : Expr} {ifs : List Expr} {scope : Scope} {own : List (Str × Nat)} {pos : Pos} {wi : TI} {g : TG} {tt : TT} {tk tv : TE} (hu : X.A.units + 1 < cLine) (hc : X.calm = true) (hN : X.N.Nodup) (hy : X.N[i]? = some y) (hyl : X.env.scope.names.lookup y = some .local) (hsw : swapsWith (.DictComp kx vx [⟨tg, iter, ifs, 0⟩] scope pos) (some (.Name y py)) spos.line X.env = pure true) (hi : PI X tg iter wi) (ok : BlkOk X.N X.env.scope scope own)
    (hg : ∀ (s : Shared) (H : Hp) (C : Addr) (cl : List (Str × Addr)) (fp : List Addr), PG (X.blk s H scope (compEnvC scope cl C X.env) fp) tg g) (ht : ∀ (s : Shared) (H : Hp) (C : Addr) (cl : List (Str × Addr)) (fp : List Addr), PTs (X.blk s H scope (compEnvC scope cl C X.env) fp) ifs tt)
    (hk : ∀ (s : Shared) (H : Hp) (C : Addr) (cl : List (Str × Addr)) (fp : List Addr), PE (X.blk s H scope (compEnvC scope cl C X.env) fp) kx tk)
    (he : ∀ (s : Shared) (H : Hp) (C : Addr) (cl : List (Str × Addr)) (fp : List Addr), PE (X.blk s H scope (compEnvC scope cl C X.env) fp) vx tv) (hs : ∀ x, foldedSetIterable iter X.env x = pure x := by intro _; rfl) :
    PS X (.Assign [.Name y py] (.DictComp kx vx [⟨tg, iter, ifs, 0⟩] scope pos) spos) (tAsg (tDcT wi g tt tk tv (own.map (·.2))) (gName i)) := by
  refine ⟨fun pins s σ H D I h => ?_⟩
  rw [exec_Assign_Name_used _ _ _ _ hsw]
  refine wpAny_bind (wpAny_standAt (wpAny_bind ?_))
  show wpAny _ X.A (do let _ ← comprehension (.DictComp kx vx [⟨tg, iter, ifs, 0⟩] scope pos) scope X.env (firstIterPos [⟨tg, iter, ifs, 0⟩] pos) newDict false (eval iter X.env) (some (assign (.Name y py) X.env))) _ _ s
  have h : tDcT wi g tt tk tv (own.map (·.2)) σ H (fun x H1 => gName i x σ H1 D.nx) := h
  refine wpAny_bind (thn (dcT_core (Qf := fun _ s' => SP X pins D .next s') hu hc hN I hi ok hg ht hk he hs h fun L C s' m H' I' q hn f => ?_) fun _ s' hq => wpAny_pure (wpAny_pure hq))
  obtain ⟨f0, f1, f2, f3, f4, f5⟩ := f
  refine wpAny_assign_Name (store_ok2 (v := V.ref L) I' hN hy (.inl hyl) rfl (fun s2 I2 ⟨a, sb, ha⟩ => ⟨m, hn.sameBut sb fun e => ha.elim (fun z => f1 (e.trans z)) fun z => f4 y a z e.symm, fun h3 sb3 => ?_⟩) (.inr hyl))
  exact ⟨_, H', I2.turned (t' := s2.toks) (fun b o hb e => (sb3.2 b hb).trans e) f0 f1 f3 f4 f5, q⟩
/-! ### {k: v}, k a tuple -/
def tDisp1 (tk tv : TE) : TE := fun σ H Q => ∀ p, H p = none → tk σ (upd H p (.dT [])) fun x H1 => tv σ H1 fun y H2 => ∃ b ks, x = .ref b ∧ H2 b = some (.tup (ks.map kV)) ∧ H2 p = some (.dT []) ∧ Q (.ref p) (upd H2 p (.dT [(ks, y)]))
theorem pe_disp1 {k v : Expr} {pos : Pos} {tk tv : TE} (hu : X.A.units + 1 < cLine) (hk : PE X k tk) (hv : PE X v tv) : PE X (.Dict [some k] [v] pos) (tDisp1 tk tv) := by
  refine ⟨fun pins s σ H Q I q => ?_⟩
  have hn := I.hok.fresh (Nat.le_refl s.heap.objs.size)
  have I1 := I.laid (a := s.heap.objs.size) (o := .dT []) (h' := s.heap.push { cls := .type "dict", data := .dict #[] }) (t' := s.toks) (fun _ _ q => Heap.get?_push_of_some _ q) (Nat.le_refl _) (dt_empty s.heap I.big)
  have hn1 := pairTrees_length [some k] [v] X.env pos rfl rfl
  have hne : pairTrees [some k] [v] X.env pos ≠ [] := fun e => by rw [e] at hn1; cases hn1
  rw [arm_eval_Dict, zip_pairTrees [some k] [v] X.env pos rfl rfl, dictDisplay_pairs _ hne (by rw [hn1]; show 1 < 17; decide)]
  refine wpAny_bind (wpAny_standAt (wpAny_bind (wpAny_subDictH (knd := tupleKind (mixKind X.prog X.w)) (Q := fun d s' => wpAny (model X.prog X.w) X.A (pure (Value.ref d)) (EP X pins σ Q) X.xe s') (show X.A.units < cLine from Nat.lt_of_succ_lt hu) (by rw [hn1]; show 1 ≤ 15; decide) ?_)))
  have all : PPs X pos [some k] [v] [(tk, tv)] := pps_cons hk hv pps_nil
  refine thn (all.run pins _ σ _ (fun ps H2 => match ps with
    | [(x, y)] => ∃ b ks, x = .ref b ∧ H2 b = some (.tup (ks.map kV)) ∧ H2 s.heap.objs.size = some (.dT []) ∧ Q (.ref s.heap.objs.size) (upd H2 s.heap.objs.size (.dT [(ks, y)]))
    | _ => False) I1 (q _ hn)) fun ws s2 ⟨ps, H2, I2, rel, q2⟩ => ?_
  cases rel with
  | nil => exact q2.elim
  | @cons p wv ps ws r rr =>
    cases rr with
    | cons _ _ => exact q2.elim
    | nil =>
      obtain ⟨x, y⟩ := p
      obtain ⟨w1, w2⟩ := wv
      obtain ⟨b, ks, ex, hb, hp, q3⟩ := q2
      have ex : x = .ref b := ex
      subst ex
      cases (show w1 = Value.ref b from r.1)
      obtain ⟨_, hd, xs, rel0, dd⟩ := dt_of I2.hok hp
      cases rel0
      refine ⟨[(ks, b, w2)], ⟨rfl, rfl, key_of I2.hok hb, trivial⟩, dd, fun h' tk' dd' same => wpAny_pure ⟨.ref s.heap.objs.size, _, ?_, rfl, q3⟩⟩
      obtain ⟨o, es, ep, e1, e2, e3, e4, _, e5⟩ := dd'
      have rel1 : KT H2 [(ks, y)] [(ks, b, w2)] := .cons ⟨rfl, hb, r.2⟩ .nil
      refine d_write (t' := tk') I2 (by rw [hp]; trivial) same ⟨o, e1⟩ ⟨?_, hd, _, rel1.keeps fun c ys ec => (upd_ne (ne_of ec hp (fun z => nomatch z))).trans ec, o, es, ep, e1, e2, e3, e4, e5⟩
      show 1 ≤ sizeLine
      decide
end
end DL

set_option Elab.async false
set_option linter.all false
set_option maxRecDepth 100000
set_option maxHeartbeats 4000000
namespace DL
open PySem PySem.Spec L2
open PyProof.Rows hiding St

section
variable {C : Ctx}
/-! ### a dict with tuple keys that nobody else knows -/
def FinD (C : Ctx) (N : An) (σ : St) (B : Hp) (r : Res (List (List Key × D))) (Q : VK) : Prop := match r with
  | .ok xs g => ∀ p vs H' B', Rep C N σ H' B' g → Le B B' → B' p = none → H' p = some (.dT vs) → RpsT C.K B' vs xs → N.H0 p = none → (∀ j : Nat, ownAt g.sl j → σ[j]? ≠ some (some (.ref p))) → Q (.ref p) H'
  | .exc n ct => ∀ cl H' B', Rep C N σ H' B' ⟨σ.map fun _ => Slot.no, ct⟩ → C.mg n = some (.ref cl) → C.E σ (.ref cl) none H'
  | .bad => False
def SatD (C : Ctx) (t : TE) (f : M (List (List Key × D))) : Prop := ∀ N σ H B g (Q : VK), Rep C N σ H B g → FinD C N σ B (f g) Q → t σ H Q
def dctM (f : M (List (List Key × D))) : M D := bindM f fun ds => pureM (dT ds)
theorem SatD.sat {t : TE} {f : M (List (List Key × D))} (h : SatD C t f) : Sat C t (dctM f) := by
  intro N σ H B g Q R q
  refine h N σ H B g Q R ?_
  have q : Fin C N σ B ((f g).bind fun ds => pureM (dT ds)) Q := q
  cases e : f g with
  | ok xs g' =>
    rw [e] at q
    intro p vs H' B' R' L n hH r h0 hs
    obtain ⟨R2, L2⟩ := R'.share hH n h0 hs
    exact q _ _ _ R2 (L.trans L2) (.dT upd_same (r.le L2) rfl)
  | exc n ct => rw [e] at q; exact q
  | bad => rw [e] at q; exact q
def asgD (f : M (List (List Key × D))) (i : Nat) : M Fl := bindM f fun xs => fun g => .ok .next { g with sl := g.sl.set i (.ownT xs) }
theorem satS_asgD {te : TE} {f : M (List (List Key × D))} {i : Nat} (h : SatD C te f) : SatS C (tAsg te (gName i)) (asgD f i) := by
  intro N σ H B g D R q
  refine h N σ H B g _ R ?_
  have q : FinS C N B ((f g).bind fun xs => fun g => .ok .next { g with sl := g.sl.set i (.ownT xs) }) D := q
  cases e : f g with
  | ok xs g' =>
    rw [e] at q
    intro p vs H' B' R' L n hH r h0 hs
    exact q _ H' B' (R'.setOwn i ⟨p, vs, rfl, n, hH, r⟩ h0 hs) L
  | exc n ct => rw [e] at q; exact fun cl H' B' => q cl σ H' B'
  | bad => rw [e] at q; exact q.elim
theorem satD_new : SatD C tDNewT (pureM []) := fun N σ H B g Q R q p hp =>
  q p [] _ B (R.newl hp) (.refl _) (R.sub_none hp) upd_same .nil (R.fresh hp) fun j hj => R.free_own hp j hj
/-- {k: v} -/
def disp1M (fk fv : M D) : M (List (List Key × D)) := bindM (calmM fk) fun k => bindM (calmM fv) fun v => match toKeyT k with
  | some ks => pureM [(ks, v)]
  | none => fun _ => .bad
theorem satD_disp1 {tk tv : TE} {fk fv : M D} (hk : Sat C.q tk fk) (hv : Sat C.q tv fv) : SatD C (tDisp1 tk tv) (disp1M fk fv) := by
  intro N σ H B g Q R q p hp
  have h0 : N.H0 p = none := R.fresh hp
  refine hk.turn (P := fun x => FinD C N σ B x Q) (R.newl (o := .dT []) hp) upd_same (R.sub_none hp) h0 (fun j hj => R.free_own hp j hj) (fun z => z) q fun k g1 v H1 B1 R1 L1 rp1 hH1 n1 o1 q1 => ?_
  refine hv.turn (P := fun x => FinD C N σ B x Q) R1 hH1 n1 h0 o1 (fun z => z) q1 fun d g2 v2 H2 B2 R2 L2 rp2 hH2 n2 o2 q2 => ?_
  cases e : toKeyT k with
  | none => simp only [e] at q2; exact q2.elim
  | some ks =>
    simp only [e] at q2
    obtain rfl := toKeyT_some e
    cases rp1.le L2 with
    | tup hb rk =>
      rw [rk.keys] at hb
      exact ⟨_, ks, rfl, R2.sub _ _ hb, hH2, q2 p _ _ B2 (R2.mut n2 h0 o2) (L1.trans L2) n2 upd_same (.cons rp2 .nil) h0 o2⟩
/-- {k: v for ..} -/
def dcLoop (k : D → M Unit) (c : M Bool) (ek ev : M D) (vs : List Nat) : List D → List (List Key × D) → M (List (List Key × D))
  | [], acc => afterM vs (pureM acc)
  | x :: r, acc => goG (k x) (bindM (calmM c) fun b => if b = true then (bindM (calmM ek) fun kd => bindM (calmM ev) fun vd => match toKeyT kd with
    | some ks => if acc.length < sizeLine then afterM vs (dcLoop k c ek ev vs r (putD acc ks vd)) else fun _ => .bad
    | none => fun _ => .bad) else afterM vs (dcLoop k c ek ev vs r acc))
def dcM (src : M (List D)) (k : D → M Unit) (c : M Bool) (ek ev : M D) (vs : List Nat) : M (List (List Key × D)) := bindM src fun xs => afterM vs (dcLoop k c ek ev vs xs [])
structure DcS (C : Ctx) (N : An) (τ : St) (p : Addr) (B1 : Hp) (H B : Hp) (g : Sg) (acc : List (List Key × D)) : Prop where
  rep : Rep C N τ H B g
  le : Le B1 B
  own : ∀ j : Nat, ownAt g.sl j → τ[j]? ≠ some (some (.ref p))
  no : B p = none
  dct : ∃ av, H p = some (.dT av) ∧ RpsT C.K B av acc
theorem DcS.back {N : An} {τ σ' : St} {p : Addr} {B1 H B : Hp} {g : Sg} {acc : List (List Key × D)} (h : DcS C N τ p B1 H B g acc) (vs : List Nat) (hl : σ'.length = τ.length) (he : ∀ j : Nat, j ∉ vs → σ'[j]? = τ[j]?) : DcS C N σ' p B1 H B (g.forget vs) acc :=
  ⟨h.rep.other vs hl he, h.le, fun j hj => by
    obtain ⟨a, b⟩ := ownAt_forget hj
    rw [he j a]; exact h.own j b, h.no, h.dct⟩
theorem satD_dc {wi : TI} {tg : TG} {tt : TT} {tk tv : TE} {vs ts : List Nat} {src : M (List D)} {k : D → M Unit} {c : M Bool} {ek ev : M D} (hs : SatI C wi src) (hg : SatG C.q ts tg k) (hc : SatT C.q tt c) (hk : Sat C.q tk ek) (he : Sat C.q tv ev) (hv : ∀ j, j ∈ ts → j ∈ vs) :
    SatD C (tDcT wi tg tt tk tv vs) (dcM src k c ek ev vs) := by
  intro N σ H B g Q R q
  refine hs N σ H B g _ R ?_
  have q : FinD C N σ B ((src g).bind fun xs => afterM vs (dcLoop k c ek ev vs xs [])) Q := q
  cases es : src g with
  | exc n ct => rw [es] at q; exact q
  | bad => rw [es] at q; exact q.elim
  | ok xs g1 =>
    rw [es] at q
    intro J H1 B1 R1 L1 W p hp
    have h0 : N.H0 p = none := R1.fresh hp
    have wl : (wipe σ vs).length = σ.length := wipe_length σ vs
    have S0 : DcS C N (wipe σ vs) p B1 (upd H1 p (.dT [])) B1 (g1.forget vs) [] := by
      refine ⟨(R1.newl (o := .dT []) hp).wipe vs, .refl _, fun j hj => ?_, R1.sub_none hp, [], upd_same, .nil⟩
      obtain ⟨a, b⟩ := ownAt_forget hj
      rw [wipe_off a]; exact R1.free_own hp j b
    refine ⟨fun i m H' => ∃ B' g' acc, i ≤ xs.length ∧ m = xs.length - i ∧ DcS C N (wipe σ vs) p B1 H' B' g' acc ∧ FinD C N σ B (dcLoop k c ek ev vs (xs.drop i) acc g') Q, ⟨xs.length, B1, g1.forget vs, [], Nat.zero_le _, rfl, S0, q⟩, ?_⟩
    rintro i m H2 ⟨B2, g2, acc, hi, rfl, S, q2⟩
    obtain ⟨R2, L2, o2, n2, av, hH2, ra⟩ := id S
    by_cases hlt : i < xs.length
    · have hd : xs.drop i = xs[i] :: xs.drop (i + 1) := List.drop_eq_getElem_cons hlt
      rw [hd] at q2
      refine .inr ⟨W.go i H2 hlt (fun a o z => R2.sub a o (L2 a o z)), fun H' => ∃ B' g' acc, DcS C N (wipe σ vs) p B1 H' B' g' acc ∧ FinD C N σ B (dcLoop k c ek ev vs (xs.drop (i + 1)) acc g') Q, fun H' ⟨B', g', acc', z1, z2⟩ => ⟨_, Nat.sub_lt_sub_left hlt (Nat.lt_succ_self i), B', g', acc', hlt, rfl, z1, z2⟩, fun x H3 y => ?_⟩
      obtain ⟨B3, G, rp⟩ := W.yld i H2 x H3 B2 xs[i] y (by simp [hlt]) L2 R2.sub
      refine hg.turn (P := fun x => FinD C N σ B x Q) (R2.grow G) rp (G.h _ _ hH2) (G.apart n2 hH2) h0 o2 (fun z => z) q2 fun g4 σ4 H4 B4 R4 L4 l4 e4 hH4 n4 o4 q4 => ?_
      have off : ∀ j : Nat, j ∉ vs → σ4[j]? = σ[j]? := fun j hj => (e4 j fun z => hj (hv j z)).trans (wipe_off hj)
      have len4 : σ4.length = σ.length := l4.trans wl
      refine ⟨wipe_eq vs len4 off, ?_⟩
      have off' : ∀ j : Nat, j ∉ vs → (wipe σ vs)[j]? = σ4[j]? := fun j hj => (wipe_off hj).trans (off j hj).symm
      have len4' : (wipe σ vs).length = σ4.length := wl.trans len4.symm
      refine hc.turn (P := fun x => FinD C N σ B x Q) R4 hH4 n4 h0 o4 (fun z => z) q4 fun b g5 H5 B5 R5 L5 hH5 n5 o5 q5 => ?_
      have LL : Le B2 B5 := (G.b.trans L4).trans L5
      cases b with
      | false => exact ⟨B5, _, acc, (DcS.mk R5 (L2.trans LL) o5 n5 ⟨av, hH5, ra.le LL⟩).back vs len4' off', q5⟩
      | true =>
        refine hk.turn (P := fun x => FinD C N σ B x Q) R5 hH5 n5 h0 o5 (fun z => z) q5 fun kd g6 v H6 B6 R6 L6 rp6 hH6 n6 o6 q6 => ?_
        refine he.turn (P := fun x => FinD C N σ B x Q) R6 hH6 n6 h0 o6 (fun z => z) q6 fun vd g7 w H7 B7 R7 L7 rp7 hH7 n7 o7 q7 => ?_
        cases ek' : toKeyT kd with
        | none => simp only [ek'] at q7; exact q7.elim
        | some ks =>
          simp only [ek'] at q7
          obtain rfl := toKeyT_some ek'
          by_cases hz : acc.length < sizeLine
          · simp only [hz, if_true] at q7
            cases rp6.le L7 with
            | tup hb rk =>
              rw [rk.keys] at hb
              have ra7 := ra.le ((LL.trans L6).trans L7)
              refine ⟨av, ks, _, rfl, R7.sub _ _ hb, hH7, by rw [ra.pd.length]; exact hz, B7, _, putD acc ks vd, ?_, q7⟩
              exact (DcS.mk (R7.mut n7 h0 o7) ((L2.trans LL).trans (L6.trans L7)) o7 n7 ⟨_, upd_same, (ra7.pd.put rp7 ks).toT⟩).back vs len4' off'
          · simp only [hz, if_false] at q7; exact q7.elim
    · have hi' : i = xs.length := by omega
      subst hi'
      rw [List.drop_length] at q2
      obtain ⟨R3, L3, o3, n3, av3, hH3, rp3⟩ := S.back vs wl.symm (fun j hj => (wipe_off hj).symm)
      exact .inl ⟨W.stop H2 (fun a o z => R2.sub a o (L2 a o z)), q2 p av3 H2 B2 R3 (L1.trans L3) n3 hH3 rp3 h0 o3⟩

/-! ### own dicts read and written -/
def findV (g : Sg) (i : Nat) (key : D) : Option (Option D) := match g.sl[i]? with
  | some (.ownT kvs) => (toKeyT key).map fun k => valD kvs k
  | some (.ownK kvs) => (toKey key).map fun k => valD kvs k
  | some (.dat d) => findD d key
  | _ => none
def isDict (g : Sg) (i : Nat) : Bool := match g.sl[i]? with
  | some (.ownT _) => true
  | some (.ownK _) => true
  | some (.dat (.dict _)) => true
  | _ => false
theorem Rep.isDict {N : An} {σ : St} {H B : Hp} {g : Sg} (R : Rep C N σ H B g) {i : Nat} (h : DL.isDict g i = true) : ∃ a, σ[i]? = some (some (.ref a)) ∧ IsD H a := by
  unfold DL.isDict at h
  cases e : g.sl[i]? with
  | none => rw [e] at h; cases h
  | some s =>
    rw [e] at h
    have r := R.slots i s e
    cases s with
    | ownT ys => obtain ⟨p, vs, e1, n, hH, rp⟩ := r; exact ⟨p, getD_some e1, .inr ⟨_, .inl hH⟩⟩
    | ownK ys => obtain ⟨p, vs, e1, n, hH, rp⟩ := r; exact ⟨p, getD_some e1, .inl ⟨_, .inl hH⟩⟩
    | dat d =>
      obtain ⟨v, e1, rp⟩ := r
      cases rp with
      | dT ha _ _ => exact ⟨_, getD_some e1, .inr ⟨_, .inl (R.sub _ _ ha)⟩⟩
      | dK ha _ _ => exact ⟨_, getD_some e1, .inl ⟨_, .inl (R.sub _ _ ha)⟩⟩
      | _ => cases h
    | _ => cases h
theorem Rep.findV {N : An} {σ : St} {H B : Hp} {g : Sg} (R : Rep C N σ H B g) {i : Nat} {key : D} {o : Option D} {y : V} (h : DL.findV g i key = some o) (ry : Rp C.K B y key) :
    ∃ a ov, σ[i]? = some (some (.ref a)) ∧ DGet H a y ov ∧ ((ov = none ∧ o = none) ∨ ∃ v e, ov = some v ∧ o = some e ∧ Rp C.K B v e) := by
  unfold DL.findV at h
  cases e : g.sl[i]? with
  | none => rw [e] at h; cases h
  | some s =>
    rw [e] at h
    have r := R.slots i s e
    cases s with
    | ownT kvs =>
      obtain ⟨p, vs, e1, n, hH, rp⟩ := r
      cases ek : toKeyT key with
      | none => rw [ek] at h; cases h
      | some ks =>
        rw [ek] at h
        cases h
        obtain rfl := toKeyT_some ek
        cases ry with
        | tup hb rk =>
          rw [rk.keys] at hb
          refine ⟨p, _, getD_some e1, .t hH (R.sub _ _ hb), ?_⟩
          rcases rp.pd.val ks with ⟨a, b⟩ | ⟨v, d, a, b, c⟩
          · exact .inl ⟨a, b⟩
          · exact .inr ⟨v, d, a, b, c⟩
    | ownK kvs =>
      obtain ⟨p, vs, e1, n, hH, rp⟩ := r
      cases ek : toKey key with
      | none => rw [ek] at h; cases h
      | some ks =>
        rw [ek] at h
        cases h
        obtain rfl := toKey_some ek
        rw [ry.key]
        refine ⟨p, _, getD_some e1, .k hH, ?_⟩
        rcases rp.pd.val ks with ⟨a, b⟩ | ⟨v, d, a, b, c⟩
        · exact .inl ⟨a, b⟩
        · exact .inr ⟨v, d, a, b, c⟩
    | dat d =>
      obtain ⟨v, e1, rp⟩ := r
      obtain ⟨a, ov, rfl, _, g3, hh⟩ := rp.find R.sub ry h
      exact ⟨a, ov, getD_some e1, g3, hh⟩
    | _ => cases h
/-- x[k], x a dict -/
def dgetV (i : Nat) (f : M D) : M D := fun g => if isDict g i = true then bindM f (fun k g' => match findV g' i k with
  | some (some v) => .ok v g'
  | _ => .bad) g else .bad
theorem sat_dgetV {i : Nat} {ty : TE} {f : M D} (h : Sat C ty f) : Sat C (tDGet (tVar i) ty) (dgetV i f) := by
  intro N σ H B g Q R q
  unfold dgetV at q
  by_cases hd : isDict g i = true
  · rw [if_pos hd] at q
    obtain ⟨a, e1, _⟩ := R.isDict hd
    refine ⟨_, e1, ?_⟩
    refine h.run (P := fun x => Fin C N σ B x Q) R q (fun n ct z => z) (fun z => z) fun d g' v H1 B1 _ R1 L1 rp1 q1 => ?_
    cases e : findV g' i d with
    | none => simp only [e] at q1; exact q1.elim
    | some o =>
      obtain ⟨a', ov, e2, g3, hh⟩ := R1.findV e rp1
      rw [e1] at e2
      cases e2
      rcases hh with ⟨rfl, rfl⟩ | ⟨v4, e4, rfl, rfl, rp4⟩
      · simp only [e] at q1; exact q1.elim
      · simp only [e] at q1
        exact ⟨a, v4, rfl, g3, q1 _ _ _ R1 L1 rp4⟩
  · rw [if_neg hd] at q; exact q.elim
/-- x.get(k, z) -/
def dget2V (i : Nat) (f l : M D) : M D := fun g => if isDict g i = true then bindM f (fun k => bindM l fun z g' => match findV g' i k with
  | some o => .ok (o.getD z) g'
  | _ => .bad) g else .bad
theorem sat_dget2V {i : Nat} {ty tx : TE} {f l : M D} (h : Sat C ty f) (h2 : Sat C tx l) : Sat C (tDGet2 (tVar i) ty tx) (dget2V i f l) := by
  intro N σ H B g Q R q
  unfold dget2V at q
  by_cases hd : isDict g i = true
  · rw [if_pos hd] at q
    obtain ⟨a, e1, hI⟩ := R.isDict hd
    refine ⟨_, e1, a, rfl, hI, ?_⟩
    refine h.run (P := fun x => Fin C N σ B x Q) R q (fun n ct z => z) (fun z => z) fun d g' v H1 B1 _ R1 L1 rp1 q1 => ?_
    refine h2.run (P := fun x => Fin C N σ B x Q) R1 q1 (fun n ct z => z) (fun z => z) fun d2 g2 v2 H2 B2 _ R2 L2 rp2 q2 => ?_
    cases e : findV g2 i d with
    | none => simp only [e] at q2; exact q2.elim
    | some o =>
      simp only [e] at q2
      obtain ⟨a', ov, e2, g3, hh⟩ := R2.findV e (rp1.le L2)
      rw [e1] at e2
      cases e2
      refine ⟨ov, g3, ?_⟩
      rcases hh with ⟨rfl, rfl⟩ | ⟨v4, e4, rfl, rfl, rp4⟩
      · exact q2 _ _ _ R2 (L1.trans L2) rp2
      · exact q2 _ _ _ R2 (L1.trans L2) rp4
  · rw [if_neg hd] at q; exact q.elim
/-- k in x, k not in x -/
def dinV (neg : Bool) (i : Nat) (f : M D) : M D := bindM f fun k g' => match findV g' i k with
  | some o => .ok (.bool (if neg then !o.isSome else o.isSome)) g'
  | _ => .bad
theorem dinV_end {N : An} {σ : St} {H B B1 : Hp} {g : Sg} {Q : VK} {neg : Bool} {i : Nat} {key : D} {y : V} (R : Rep C N σ H B1 g) (L : Le B B1) (ry : Rp C.K B1 y key) (q : Fin C N σ B (match findV g i key with
  | some o => .ok (.bool (if neg then !o.isSome else o.isSome)) g
  | _ => .bad) Q) : ∃ v, σ[i]? = some (some v) ∧ ∃ a o, v = .ref a ∧ DGet H a y o ∧ Q (.bl (if neg then !o.isSome else o.isSome)) H := by
  cases e : findV g i key with
  | none => simp only [e] at q; exact q.elim
  | some o =>
    simp only [e] at q
    obtain ⟨a', ov, e2, g3, hh⟩ := R.findV e ry
    refine ⟨_, e2, a', ov, rfl, g3, ?_⟩
    rcases hh with ⟨rfl, rfl⟩ | ⟨v4, e4, rfl, rfl, rp4⟩
    · exact q _ _ _ R L (.bl _)
    · exact q _ _ _ R L (.bl _)
theorem sat_dinV {i : Nat} {ty : TE} {f : M D} (h : Sat C ty f) : Sat C (tDIn ty (tVar i)) (dinV false i f) := by
  intro N σ H B g Q R q
  refine h.run (P := fun x => Fin C N σ B x Q) R q (fun n ct z => z) (fun z => z) fun d g' v H1 B1 _ R1 L1 rp1 q1 => ?_
  exact dinV_end (neg := false) R1 L1 rp1 q1
theorem sat_dnotinV {i : Nat} {ty : TE} {f : M D} (h : Sat C ty f) : Sat C (tDNotIn ty (tVar i)) (dinV true i f) := by
  intro N σ H B g Q R q
  refine h.run (P := fun x => Fin C N σ B x Q) R q (fun n ct z => z) (fun z => z) fun d g' v H1 B1 _ R1 L1 rp1 q1 => ?_
  exact dinV_end (neg := true) R1 L1 rp1 q1
/-- x[k] = v -/
def dputM (i : Nat) (fk fv : M D) : M Fl := bindM fv fun v => fun g => if isDict g i = true then bindM fk (fun k g' => match g'.sl[i]? with
  | some (.ownT kvs) => (match toKeyT k with
    | some ks => if kvs.length < sizeLine then .ok .next { g' with sl := g'.sl.set i (.ownT (putD kvs ks v)) } else .bad
    | none => .bad)
  | some (.ownK kvs) => (match toKey k with
    | some ks => if kvs.length < sizeLine then .ok .next { g' with sl := g'.sl.set i (.ownK (putD kvs ks v)) } else .bad
    | none => .bad)
  | _ => .bad) g else .bad
theorem satS_dput {i : Nat} {ty tv : TE} {fk fv : M D} (hk : Sat C ty fk) (hv : Sat C tv fv) : SatS C (sDPut (tVar i) ty tv) (dputM i fk fv) := by
  intro N σ H B g D R q
  refine hv.toS R q fun d g1 v H1 B1 _ R1 L1 rp1 q1 => ?_
  by_cases hd : isDict g1 i = true
  · simp only [hd, if_true] at q1
    obtain ⟨a, e1, _⟩ := R1.isDict hd
    refine ⟨_, e1, ?_⟩
    refine hk.toS R1 (FinS.le L1 q1) fun kd g2 y H2 B2 _ R2 L2 rp2 q2 => ?_
    cases e : g2.sl[i]? with
    | none => simp only [e] at q2; exact q2.elim
    | some s =>
      have r := R2.slots i s e
      cases s with
      | ownT kvs =>
        obtain ⟨p, vs, e2, n, hH, rp⟩ := r
        rw [e1] at e2
        cases e2
        simp only [e] at q2
        cases ek : toKeyT kd with
        | none => simp only [ek] at q2; exact q2.elim
        | some ks =>
          simp only [ek] at q2
          by_cases hz : kvs.length < sizeLine
          · simp only [hz, if_true] at q2
            obtain rfl := toKeyT_some ek
            cases rp2 with
            | tup hb rk =>
              rw [rk.keys] at hb
              exact ⟨a, _, rfl, .t hH (R2.sub _ _ hb) (by rw [rp.pd.length]; exact hz), q2 σ _ B2 (R2.write e rfl e1 n ⟨a, _, rfl, n, upd_same, (rp.pd.put (rp1.le L2) ks).toT⟩) L2⟩
          · simp only [hz, if_false] at q2; exact q2.elim
      | ownK kvs =>
        obtain ⟨p, vs, e2, n, hH, rp⟩ := r
        rw [e1] at e2
        cases e2
        simp only [e] at q2
        cases ek : toKey kd with
        | none => simp only [ek] at q2; exact q2.elim
        | some ks =>
          simp only [ek] at q2
          by_cases hz : kvs.length < sizeLine
          · simp only [hz, if_true] at q2
            obtain rfl := toKey_some ek
            rw [rp2.key]
            exact ⟨a, _, rfl, .k hH (by rw [rp.pd.length]; exact hz), q2 σ _ B2 (R2.write e rfl e1 n ⟨a, _, rfl, n, upd_same, (rp.pd.put (rp1.le L2) ks).toK⟩) L2⟩
          · simp only [hz, if_false] at q2; exact q2.elim
      | _ => simp only [e] at q2; exact q2.elim
  · simp only [hd, if_false] at q1; exact q1.elim

/-! ### built-ins -/
def intD (ds : List D) : Option D := match ds with
  | [.int i] => some (.int i)
  | [.bool k] => some (.int (if k then 1 else 0))
  | _ => none
theorem vn_int : VN C (fun xs H Q => (∃ i, xs = [.int i] ∧ Q (.int i) H) ∨ ∃ k, xs = [.bl k] ∧ Q (.int (if k then 1 else 0)) H) intD := by
  intro H B xs ds d Q L r e q
  cases r with
  | nil => cases e
  | cons a b =>
    cases b with
    | cons _ _ => cases a <;> cases e
    | nil =>
      cases a with
      | int i => cases e; exact .inl ⟨i, rfl, q _ H B .refl (.int _)⟩
      | bl k => cases e; exact .inr ⟨k, rfl, q _ H B .refl (.int _)⟩
      | _ => cases e
def absD (ds : List D) : Option D := match ds with
  | [.int i] => some (.int (if i < 0 then -i else i))
  | _ => none
theorem vn_abs : VN C (fun xs H Q => ∃ i, xs = [.int i] ∧ Q (.int (if i < 0 then -i else i)) H) absD := by
  intro H B xs ds d Q L r e q
  cases r with
  | nil => cases e
  | cons a b =>
    cases b with
    | cons _ _ => cases a <;> cases e
    | nil =>
      cases a with
      | int i => cases e; exact ⟨i, rfl, q _ H B .refl (.int _)⟩
      | _ => cases e
/-- a list of ints, of truths -/
def intsD : List D → Option (List Int)
  | [] => some []
  | .int i :: r => (intsD r).map fun ns => i :: ns
  | _ => none
def blsD : List D → Option (List Bool)
  | [] => some []
  | .bool i :: r => (blsD r).map fun ns => i :: ns
  | _ => none
theorem intsD_some : ∀ {ds : List D} {ns : List Int}, intsD ds = some ns → ds = ns.map PyData.int
  | [], _, h => by cases h; rfl
  | d :: r, ns, h => by
    cases d with
    | int i =>
      have h : (intsD r).map (fun ns => i :: ns) = some ns := h
      cases e : intsD r with
      | none => rw [e] at h; cases h
      | some ms => rw [e] at h; cases h; rw [intsD_some e]; rfl
    | _ => cases h
theorem intsD_map (ns : List Int) : intsD (ns.map PyData.int) = some ns := by
  induction ns with
  | nil => rfl
  | cons n r ih => show (intsD (r.map PyData.int)).map _ = _; rw [ih]; rfl
theorem blsD_some : ∀ {ds : List D} {ns : List Bool}, blsD ds = some ns → ds = ns.map PyData.bool
  | [], _, h => by cases h; rfl
  | d :: r, ns, h => by
    cases d with
    | bool i =>
      have h : (blsD r).map (fun ns => i :: ns) = some ns := h
      cases e : blsD r with
      | none => rw [e] at h; cases h
      | some ms => rw [e] at h; cases h; rw [blsD_some e]; rfl
    | _ => cases h
theorem blsD_map (ns : List Bool) : blsD (ns.map PyData.bool) = some ns := by
  induction ns with
  | nil => rfl
  | cons n r ih => show (blsD (r.map PyData.bool)).map _ = _; rw [ih]; rfl
theorem Rps.bls {K : PySem.W.Frag} {B : Hp} : ∀ {ns : List Bool} {vs : List V}, Rps K B vs (ns.map PyData.bool) → vs = ns.map V.bl
  | [], _, .nil => rfl
  | n :: r, _, .cons h t => by cases h; rw [Rps.bls t]; rfl
/-- one list -/
def onL (f : List D → Option D) (ds : List D) : Option D := match ds with
  | [.list xs] => f xs
  | _ => none
theorem onL_some {f : List D → Option D} {ds : List D} {d : D} (h : onL f ds = some d) : ∃ xs, ds = [.list xs] ∧ f xs = some d := by
  unfold onL at h
  split at h
  · exact ⟨_, rfl, h⟩
  · cases h
def sumD := onL fun xs => (intsD xs).map fun ns => .int ns.sum
theorem vn_sum : VN C (rSum C.K) sumD := by
  intro H B xs ds d Q L r e q
  obtain ⟨ys, rfl, e0⟩ := onL_some e
  obtain ⟨v, rfl, rp⟩ := r.one_of
  cases rp with
  | lst hb rp =>
    cases e1 : intsD ys with
    | none => rw [e1] at e0; cases e0
    | some ns =>
      rw [e1] at e0
      cases e0
      obtain rfl := intsD_some e1
      exact ⟨_, ns, rfl, SqL.of (by rw [← rp.of_ints]; exact L _ _ hb), q _ H B .refl (.int _)⟩
def allD := onL fun xs => (blsD xs).map fun ns => .bool (ns.all id)
theorem vn_all : VN C (rAll C.K) allD := by
  intro H B xs ds d Q L r e q
  obtain ⟨ys, rfl, e0⟩ := onL_some e
  obtain ⟨v, rfl, rp⟩ := r.one_of
  cases rp with
  | lst hb rp =>
    cases e1 : blsD ys with
    | none => rw [e1] at e0; cases e0
    | some ns =>
      rw [e1] at e0
      cases e0
      obtain rfl := blsD_some e1
      exact ⟨_, ns, rfl, SqL.of (by rw [← rp.bls]; exact L _ _ hb), q _ H B .refl (.bl _)⟩
def anyD := onL fun xs => (blsD xs).map fun ns => .bool (ns.any id)
theorem vn_any : VN C (rAny C.K) anyD := by
  intro H B xs ds d Q L r e q
  obtain ⟨ys, rfl, e0⟩ := onL_some e
  obtain ⟨v, rfl, rp⟩ := r.one_of
  cases rp with
  | lst hb rp =>
    cases e1 : blsD ys with
    | none => rw [e1] at e0; cases e0
    | some ns =>
      rw [e1] at e0
      cases e0
      obtain rfl := blsD_some e1
      exact ⟨_, ns, rfl, SqL.of (by rw [← rp.bls]; exact L _ _ hb), q _ H B .refl (.bl _)⟩
def maxL : List Int → Option Int
  | [] => none
  | n :: r => some (r.foldl max n)
def minL : List Int → Option Int
  | [] => none
  | n :: r => some (r.foldl min n)
theorem foldl_max_mem : ∀ (r : List Int) (n : Int), r.foldl max n ∈ n :: r ∧ ∀ y ∈ n :: r, y ≤ r.foldl max n
  | [], n => ⟨by simp, by simp⟩
  | m :: r, n => by
    obtain ⟨h1, h2⟩ := foldl_max_mem r (max n m)
    rw [List.foldl_cons]
    constructor
    · rcases List.mem_cons.mp h1 with e | h1
      · rw [e]
        by_cases hh : n ≤ m
        · rw [Int.max_eq_right hh]; simp
        · rw [Int.max_eq_left (by omega)]; simp
      · simp [h1]
    · intro y hy
      have hm := h2 (max n m) (by simp)
      rcases List.mem_cons.mp hy with e | hy
      · subst e; exact Int.le_trans (Int.le_max_left y m) hm
      · rcases List.mem_cons.mp hy with e | hy
        · subst e; exact Int.le_trans (Int.le_max_right n y) hm
        · exact h2 y (List.mem_cons_of_mem _ hy)
theorem foldl_min_mem : ∀ (r : List Int) (n : Int), r.foldl min n ∈ n :: r ∧ ∀ y ∈ n :: r, r.foldl min n ≤ y
  | [], n => ⟨by simp, by simp⟩
  | m :: r, n => by
    obtain ⟨h1, h2⟩ := foldl_min_mem r (min n m)
    rw [List.foldl_cons]
    constructor
    · rcases List.mem_cons.mp h1 with e | h1
      · rw [e]
        by_cases hh : n ≤ m
        · rw [Int.min_eq_left hh]; simp
        · rw [Int.min_eq_right (by omega)]; simp
      · simp [h1]
    · intro y hy
      have hm := h2 (min n m) (by simp)
      rcases List.mem_cons.mp hy with e | hy
      · subst e; exact Int.le_trans hm (Int.min_le_left y m)
      · rcases List.mem_cons.mp hy with e | hy
        · subst e; exact Int.le_trans hm (Int.min_le_right n y)
        · exact h2 y (List.mem_cons_of_mem _ hy)
theorem maxL_uniq {ns : List Int} {m z : Int} (h : maxL ns = some z) (h1 : m ∈ ns) (h2 : ∀ y, y ∈ ns → y ≤ m) : m = z := by
  cases ns with
  | nil => cases h
  | cons n r =>
    cases h
    obtain ⟨a, b⟩ := foldl_max_mem r n
    exact Int.le_antisymm (b m h1) (h2 _ a)
theorem minL_uniq {ns : List Int} {m z : Int} (h : minL ns = some z) (h1 : m ∈ ns) (h2 : ∀ y, y ∈ ns → m ≤ y) : m = z := by
  cases ns with
  | nil => cases h
  | cons n r =>
    cases h
    obtain ⟨a, b⟩ := foldl_min_mem r n
    exact Int.le_antisymm (h2 _ a) (b m h1)
def maxD := onL fun xs => (intsD xs).bind fun ns => (maxL ns).map fun m => .int m
def minD := onL fun xs => (intsD xs).bind fun ns => (minL ns).map fun m => .int m
theorem vn_max : VN C (rMax C.K) maxD := by
  intro H B xs ds d Q L r e q
  obtain ⟨ys, rfl, e0⟩ := onL_some e
  obtain ⟨v, rfl, rp⟩ := r.one_of
  cases rp with
  | lst hb rp =>
    cases e1 : intsD ys with
    | none => rw [e1] at e0; cases e0
    | some ns =>
      rw [e1] at e0
      cases e2 : maxL ns with
      | none => rw [Option.bind_some, e2] at e0; cases e0
      | some z =>
        rw [Option.bind_some, e2] at e0
        cases e0
        obtain rfl := intsD_some e1
        refine ⟨_, ns, rfl, SqL.of (by rw [← rp.of_ints]; exact L _ _ hb), ?_, fun m h1 h2 => ?_⟩
        · cases ns with
          | nil => cases e2
          | cons _ _ => exact Nat.succ_pos _
        · rw [maxL_uniq e2 h1 h2]; exact q _ H B .refl (.int _)
theorem vn_min : VN C (rMin C.K) minD := by
  intro H B xs ds d Q L r e q
  obtain ⟨ys, rfl, e0⟩ := onL_some e
  obtain ⟨v, rfl, rp⟩ := r.one_of
  cases rp with
  | lst hb rp =>
    cases e1 : intsD ys with
    | none => rw [e1] at e0; cases e0
    | some ns =>
      rw [e1] at e0
      cases e2 : minL ns with
      | none => rw [Option.bind_some, e2] at e0; cases e0
      | some z =>
        rw [Option.bind_some, e2] at e0
        cases e0
        obtain rfl := intsD_some e1
        refine ⟨_, ns, rfl, SqL.of (by rw [← rp.of_ints]; exact L _ _ hb), ?_, fun m h1 h2 => ?_⟩
        · cases ns with
          | nil => cases e2
          | cons _ _ => exact Nat.succ_pos _
        · rw [minL_uniq e2 h1 h2]; exact q _ H B .refl (.int _)
/-- list(x), tuple(x) -/
abbrev rListOf (K : PySem.W.Frag) : List V → Hp → VK → Prop := fun xs H Q => ∃ p ys, xs = [.ref p] ∧ (SqL K H p ys ∨ SqT K H p ys) ∧ ∀ l, H l = none → Q (.ref l) (upd H l (.lst ys))
abbrev rTupleOf (K : PySem.W.Frag) : List V → Hp → VK → Prop := fun xs H Q => ∃ p ys, xs = [.ref p] ∧ ((SqL K H p ys ∧ ∀ l, H l = none → Q (.ref l) (upd H l (.tup ys))) ∨ (SqT K H p ys ∧ Q (.ref p) H))
def one1 (ds : List D) : Option D := match ds with
  | [d] => some d
  | _ => none
def listOfM (f : M (List D)) : M (List D) := bindM f fun ds => liftO ((one1 ds).bind seqD)
theorem one1_some {ds : List D} {xs : List D} (h : (one1 ds).bind seqD = some xs) : ∃ d, ds = [d] ∧ seqD d = some xs := by
  cases ds with
  | nil => cases h
  | cons d r =>
    cases r with
    | nil => exact ⟨d, rfl, h⟩
    | cons _ _ => cases h
theorem sq_or {K : PySem.W.Frag} {H : Hp} {q : Sq} {vs : List V} (h : q.st K H vs) : SqL K H q.a vs ∨ SqT K H q.a vs := by
  cases q with
  | L a => exact .inl h
  | T a => exact .inr h
theorem satF_listOf {t : TA} {f : M (List D)} (h : SatA C t f) : SatF C (tCB (rListOf C.K) t) (listOfM f) := by
  intro N σ H B g Q R q
  refine h.run (P := fun x => FinF C N σ B x Q) R q (fun n ct z => z) (fun z => z) fun ds g' vs H1 B1 _ R1 L1 rp1 q1 => ?_
  cases e : (one1 ds).bind seqD with
  | none => rw [e] at q1; exact q1.elim
  | some xs =>
    rw [e] at q1
    obtain ⟨d, rfl, e2⟩ := one1_some e
    obtain ⟨v, rfl, rp⟩ := rp1.one_of
    obtain ⟨sq, ws, rfl, hq, r⟩ := rp.seq e2
    exact ⟨_, ws, rfl, sq_or (Sq.le R1.sub hq), fun l hl => q1 l ws _ B1 (R1.newl hl) L1 (R1.sub_none hl) upd_same r (R1.fresh hl) fun j hj => R1.free_own hl j hj⟩
def tupleOfD (ds : List D) : Option D := (one1 ds).bind fun d => (seqD d).map .tuple
theorem vn_tupleOf : VN C (rTupleOf C.K) tupleOfD := by
  intro H B xs ds d Q L r e q
  unfold tupleOfD at e
  cases ds with
  | nil => cases e
  | cons d0 rest =>
    cases rest with
    | cons _ _ => cases e
    | nil =>
      obtain ⟨v, rfl, rp⟩ := r.one_of
      have e : (seqD d0).map PyData.tuple = some d := e
      cases rp with
      | lst hb rp =>
        cases e
        refine ⟨_, _, rfl, .inl ⟨SqL.of (L _ _ hb), fun l hl => ?_⟩⟩
        rename_i a ws es
        have G := Grow.upd (o := .tup ws) hl L
        exact q _ _ _ G (.tup upd_same (rp.le G.b))
      | tup hb rp => cases e; exact ⟨_, _, rfl, .inr ⟨SqT.of (L _ _ hb), q _ H B .refl (.tup hb rp)⟩⟩
      | _ => cases e
end
end DL

set_option Elab.async false
set_option linter.all false
set_option maxRecDepth 100000
set_option maxHeartbeats 4000000
/-! DL10: a text's part does what f says (canonical readings); calls of defs by what they tell; raise. -/
namespace DL
open PySem PySem.Spec L2
open PyProof.Rows hiding St

/-! ### canonical readings -/
def toE (C : Ctx) (f : M D) : TE := fun σ H Q => ∃ N B g, Rep C N σ H B g ∧ Fin C N σ B (f g) Q
def toT (C : Ctx) (f : M Bool) : TT := fun σ H Q => ∃ N B g, Rep C N σ H B g ∧ FinT C N σ B (f g) Q
def toA (C : Ctx) (f : M (List D)) : TA := fun σ H Q => ∃ N B g, Rep C N σ H B g ∧ FinA C N σ B (f g) Q
def toF (C : Ctx) (f : M (List D)) : TE := fun σ H Q => ∃ N B g, Rep C N σ H B g ∧ FinF C N σ B (f g) Q
def toDc (C : Ctx) (f : M (List (List Key × D))) : TE := fun σ H Q => ∃ N B g, Rep C N σ H B g ∧ FinD C N σ B (f g) Q
def toI (C : Ctx) (f : M (List D)) : TI := fun σ H R => ∃ N B g, Rep C N σ H B g ∧ FinI C N σ B (f g) R
def toS (C : Ctx) (f : M Fl) : TS := fun D σ H => ∃ N B g, Rep C N σ H B g ∧ FinS C N B (f g) D
def toG (C : Ctx) (ts : List Nat) (k : D → M Unit) : TG := fun v σ H Q => ∃ N B g d, Rep C N σ H B g ∧ Rp C.K B v d ∧ FinG C N ts σ B (k d g) Q
section
variable {C : Ctx} {X : Cx}
theorem sE {f : M D} : Sat C (toE C f) f := fun N σ H B g Q R q => ⟨N, B, g, R, q⟩
theorem sT {f : M Bool} : SatT C (toT C f) f := fun N σ H B g Q R q => ⟨N, B, g, R, q⟩
theorem sA {f : M (List D)} : SatA C (toA C f) f := fun N σ H B g Q R q => ⟨N, B, g, R, q⟩
theorem sF {f : M (List D)} : SatF C (toF C f) f := fun N σ H B g Q R q => ⟨N, B, g, R, q⟩
theorem sD {f : M (List (List Key × D))} : SatD C (toDc C f) f := fun N σ H B g Q R q => ⟨N, B, g, R, q⟩
theorem sI {f : M (List D)} : SatI C (toI C f) f := fun N σ H B g Q R q => ⟨N, B, g, R, q⟩
theorem sS {f : M Fl} : SatS C (toS C f) f := fun N σ H B g D R q => ⟨N, B, g, R, q⟩
theorem sG {ts : List Nat} {k : D → M Unit} : SatG C ts (toG C ts k) k := fun N v σ H B g d Q R r q => ⟨N, B, g, d, R, r, q⟩
abbrev DE (C : Ctx) (X : Cx) (e : Expr) (f : M D) : Prop := PE X e (toE C f)
abbrev DT (C : Ctx) (X : Cx) (e : Expr) (f : M Bool) : Prop := PT X e (toT C f)
abbrev DTs (C : Ctx) (X : Cx) (e : List Expr) (f : M Bool) : Prop := PTs X e (toT C f)
abbrev DA (C : Ctx) (X : Cx) (e : List Expr) (f : M (List D)) : Prop := PA X e (toA C f)
abbrev DF (C : Ctx) (X : Cx) (e : Expr) (f : M (List D)) : Prop := PE X e (toF C f)
abbrev DDc (C : Ctx) (X : Cx) (e : Expr) (f : M (List (List Key × D))) : Prop := PE X e (toDc C f)
abbrev DI (C : Ctx) (X : Cx) (tg e : Expr) (f : M (List D)) : Prop := PI X tg e (toI C f)
abbrev DS (C : Ctx) (X : Cx) (e : Stmt) (f : M Fl) : Prop := PS X e (toS C f)
abbrev DSs (C : Ctx) (X : Cx) (e : List Stmt) (f : M Fl) : Prop := PSs X e (toS C f)
abbrev DG (C : Ctx) (X : Cx) (e : Expr) (ts : List Nat) (k : D → M Unit) : Prop := PG X e (toG C ts k)
theorem dE {e : Expr} {t : TE} {f : M D} (h : PE X e t) (s : Sat C t f) : DE C X e f := ⟨fun pins s0 σ H Q I ⟨N, B, g, R, q⟩ => h.run pins s0 σ H Q I (s N σ H B g Q R q)⟩
theorem dF {e : Expr} {t : TE} {f : M (List D)} (h : PE X e t) (s : SatF C t f) : DF C X e f := ⟨fun pins s0 σ H Q I ⟨N, B, g, R, q⟩ => h.run pins s0 σ H Q I (s N σ H B g Q R q)⟩
theorem dD {e : Expr} {t : TE} {f : M (List (List Key × D))} (h : PE X e t) (s : SatD C t f) : DDc C X e f := ⟨fun pins s0 σ H Q I ⟨N, B, g, R, q⟩ => h.run pins s0 σ H Q I (s N σ H B g Q R q)⟩
theorem dT' {e : Expr} {t : TT} {f : M Bool} (h : PT X e t) (s : SatT C t f) : DT C X e f := ⟨fun pins s0 σ H Q I ⟨N, B, g, R, q⟩ => h.run pins s0 σ H Q I (s N σ H B g Q R q)⟩
theorem dTs {e : List Expr} {t : TT} {f : M Bool} (h : PTs X e t) (s : SatT C t f) : DTs C X e f := ⟨fun pins s0 σ H Q I ⟨N, B, g, R, q⟩ => h.run pins s0 σ H Q I (s N σ H B g Q R q)⟩
theorem dA {e : List Expr} {t : TA} {f : M (List D)} (h : PA X e t) (s : SatA C t f) : DA C X e f := ⟨fun pos pins s0 σ H Q I ⟨N, B, g, R, q⟩ => h.run pos pins s0 σ H Q I (s N σ H B g Q R q)⟩
theorem dI {tg e : Expr} {t : TI} {f : M (List D)} (h : PI X tg e t) (s : SatI C t f) : DI C X tg e f := ⟨fun pins s0 σ H Q I ⟨N, B, g, R, q⟩ => h.run pins s0 σ H Q I (s N σ H B g Q R q)⟩
theorem dS {e : Stmt} {t : TS} {f : M Fl} (h : PS X e t) (s : SatS C t f) : DS C X e f := ⟨fun pins s0 σ H D I ⟨N, B, g, R, q⟩ => h.run pins s0 σ H D I (s N σ H B g D R q)⟩
theorem dSs {e : List Stmt} {t : TS} {f : M Fl} (h : PSs X e t) (s : SatS C t f) : DSs C X e f := ⟨fun pins s0 σ H D I ⟨N, B, g, R, q⟩ => h.run pins s0 σ H D I (s N σ H B g D R q)⟩
theorem dG {e : Expr} {ts : List Nat} {t : TG} {k : D → M Unit} (h : PG X e t) (s : SatG C ts t k) : DG C X e ts k := ⟨fun pins s0 σ H x u Q I r ⟨N, B, g, d, R, rp, q⟩ => h.run pins s0 σ H x u Q I r (s N x σ H B g d Q R rp q)⟩
/-- a fresh list, a fresh dict as data -/
theorem dL {e : Expr} {f : M (List D)} (h : DF C X e f) : DE C X e (lstM f) := dE h sF.sat
end

/-! ### what a def tells -/
/-- the numbers of the law's stream (none: there is no stream yet), the arguments, the stream's count -/
abbrev FnM := List Int → List Slot → Int → Res D
def nsOf (s : Option StC) : List Int := match s with
  | some c => c.ns
  | none => []
abbrev Ctx.ns (C : Ctx) : List Int := nsOf C.st
def ArgOk (C : Ctx) (B : Hp) : V → Slot → Prop
  | v, .dat d => Rp C.K B v d
  | v, .sta => ∃ c, C.st = some c ∧ v = .ref c.a
  | _, _ => False
inductive ArgsOk (C : Ctx) (B : Hp) : List V → List Slot → Prop
  | nil : ArgsOk C B [] []
  | cons {v : V} {vs : List V} {s : Slot} {ss : List Slot} : ArgOk C B v s → ArgsOk C B vs ss → ArgsOk C B (v :: vs) (s :: ss)
theorem ArgsOk.length {C : Ctx} {B : Hp} : ∀ {vs : List V} {ss : List Slot}, ArgsOk C B vs ss → vs.length = ss.length
  | _, _, .nil => rfl
  | _, _, .cons _ r => by rw [List.length_cons, List.length_cons, ArgsOk.length r]
theorem ArgsOk.get {C : Ctx} {B : Hp} : ∀ {vs : List V} {ss : List Slot} {i : Nat} {s : Slot}, ArgsOk C B vs ss → ss[i]? = some s → ∃ v, vs[i]? = some v ∧ ArgOk C B v s
  | _, _, _, _, .nil, e => by simp at e
  | _, _, 0, _, .cons h _, e => by simp at e; subst e; exact ⟨_, rfl, h⟩
  | _, _, i + 1, s, .cons _ r, e => by
    obtain ⟨v, h1, h2⟩ := ArgsOk.get (i := i) (s := s) r (by simpa using e)
    exact ⟨v, by simpa using h1, h2⟩
theorem ArgsOk.dats {C : Ctx} {B : Hp} : ∀ {vs : List V} {ds : List D}, Rps C.K B vs ds → ArgsOk C B vs (ds.map .dat)
  | _, _, .nil => .nil
  | _, _, .cons h r => .cons h (ArgsOk.dats r)
/-- behind a call: old things stand (but the stream's cell), new things are new -/
structure Post (st : Option StC) (H B H' B' : Hp) (ct : Int) : Prop where
  b : Le B B'
  n : ∀ a o, B' a = some o → B a = some o ∨ H a = none
  s : ∀ a o, B' a = some o → H' a = some o
  h : ∀ a o, H a = some o → (∀ c, st = some c → a ≠ c.a) → H' a = some o
  c : ∀ c, st = some c → H' c.a = some (.lst [.ref c.na, .int ct])
def spD (K : PySem.W.Frag) (mg : Str → Option Value) (f : FnM) : Sp := fun vs H Q E => ∃ (st : Option StC) (B : Hp) (ss : List Slot) (ct : Int),
  Le B H ∧ ArgsOk ⟨K, mg, st, fun _ => E⟩ B vs ss ∧ (∀ c, st = some c → B c.a = none ∧ H c.a = some (.lst [.ref c.na, .int ct]) ∧ B c.na = some (.lst (c.ns.map V.int))) ∧
  match f (Ctx.ns ⟨K, mg, st, fun _ => E⟩) ss ct with
  | .ok d g => ∀ v H' B', Post st H B H' B' g.ct → Rp K B' v d → Q v H'
  | .exc n ct' => ∀ cl H' B', Post st H B H' B' ct' → mg n = some (.ref cl) → E (.ref cl) none H'
  | .bad => False
section
variable {C : Ctx} {N : An} {σ : St} {H B H' B' : Hp} {g : Sg}
theorem Rep.post {ct : Int} (R : Rep C N σ H B g) (P : Post C.st H B H' B' ct) : Rep C N σ H' B' { g with ct := ct } where
  len := R.len
  slots := fun i s e => by
    have r := R.slots i s e
    have ap : ∀ {p : Addr} {o : HO}, B p = none → H p = some o → B' p = none := fun {p o} n h => by
      cases q : B' p with
      | none => rfl
      | some u =>
        rcases P.n p u q with z | z
        · rw [n] at z; cases z
        · rw [h] at z; cases z
    have ow : ∀ {p : Addr} {o : HO}, s.isOwn = true → σ[i]?.getD none = some (.ref p) → H p = some o → H' p = some o := fun {p o} hs hp h => P.h p o h fun c hc z => by
      subst z
      exact (R.st c hc).2.2.2 (R.ownNew i _ ⟨s, e, hs⟩ (getD_some hp))
    cases s with
    | no => trivial
    | dat d => obtain ⟨v, e1, r1⟩ := r; exact ⟨v, e1, r1.le P.b⟩
    | own xs => obtain ⟨p, vs, e1, n, h, r1⟩ := r; exact ⟨p, vs, e1, ap n h, ow rfl e1 h, r1.le P.b⟩
    | ownT xs => obtain ⟨p, vs, e1, n, h, r1⟩ := r; exact ⟨p, vs, e1, ap n h, ow rfl e1 h, r1.le P.b⟩
    | ownK xs => obtain ⟨p, vs, e1, n, h, r1⟩ := r; exact ⟨p, vs, e1, ap n h, ow rfl e1 h, r1.le P.b⟩
    | raw v => exact r
    | sta => exact r
  sep := R.sep
  sub := P.s
  up := fun a o q => P.b _ _ (R.up a o q)
  new := fun a o q => by
    rcases P.n a o q with z | z
    · exact R.new a o z
    · exact .inr (R.fresh z)
  ownNew := R.ownNew
  keep := fun a o q hc => P.h a o (R.keep a o q hc) hc
  st := fun c hc => by
    obtain ⟨h1, h2, h3, h4⟩ := R.st c hc
    refine ⟨?_, P.c c hc, P.b _ _ h3, h4⟩
    cases q : B' c.a with
    | none => rfl
    | some u =>
      rcases P.n c.a u q with z | z
      · rw [h1] at z; cases z
      · rw [h2] at z; cases z
theorem Rep.bare (R : Rep C N σ H B g) : Rep C N σ H B ⟨σ.map fun _ => Slot.no, g.ct⟩ where
  len := by simp
  slots := fun i s e => by
    have : s = .no := by
      rw [List.getElem?_map] at e
      cases h : σ[i]? with
      | none => rw [h] at e; cases e
      | some _ => rw [h] at e; cases e; rfl
    subst this
    trivial
  sep := fun i j p _ hi => by
    obtain ⟨s, e, h⟩ := hi
    rw [List.getElem?_map] at e
    cases q : σ[i]? with
    | none => rw [q] at e; cases e
    | some _ => rw [q] at e; cases e; cases h
  sub := R.sub
  up := R.up
  new := R.new
  ownNew := fun i p hi => by
    obtain ⟨s, e, h⟩ := hi
    rw [List.getElem?_map] at e
    cases q : σ[i]? with
    | none => rw [q] at e; cases e
    | some _ => rw [q] at e; cases e; cases h
  keep := R.keep
  st := R.st
end

/-! ### arguments, calls -/
def FinX (C : Ctx) (N : An) (σ : St) (B : Hp) (r : Res (List Slot)) (Q : List V → Hp → Prop) : Prop := match r with
  | .ok ss g => ∀ vs H' B', Rep C N σ H' B' g → Le B B' → ArgsOk C B' vs ss → Q vs H'
  | .exc n ct => ∀ cl H' B', Rep C N σ H' B' ⟨σ.map fun _ => Slot.no, ct⟩ → C.mg n = some (.ref cl) → C.E σ (.ref cl) none H'
  | .bad => False
def SatX (C : Ctx) (t : TA) (f : M (List Slot)) : Prop := ∀ N σ H B g (Q : List V → Hp → Prop), Rep C N σ H B g → FinX C N σ B (f g) Q → t σ H Q
def datsM (f : M (List D)) : M (List Slot) := bindM f fun ds => pureM (ds.map .dat)
def staM (i : Nat) (f : M (List D)) : M (List Slot) := fun g => match g.sl[i]? with
  | some .sta => bindM f (fun ds => pureM (.sta :: ds.map .dat)) g
  | _ => .bad
def callM (h : FnM) (ns : List Int) (f : M (List Slot)) : M D := bindM f fun ss g => match h ns ss g.ct with
  | .ok d g' => .ok d { g with ct := g'.ct }
  | .exc n ct => .exc n ct
  | .bad => .bad
section
variable {C : Ctx} {X : Cx}
theorem satX_dats {t : TA} {f : M (List D)} (h : SatA C t f) : SatX C t (datsM f) := by
  intro N σ H B g Q R q
  exact h.run (P := fun x => FinX C N σ B x Q) R q (fun n ct z => z) (fun z => z) fun ds g' vs H1 B1 _ R1 L1 rp q1 => q1 vs H1 B1 R1 L1 (.dats rp)
theorem satX_sta {i : Nat} {t : TA} {f : M (List D)} (h : SatA C t f) : SatX C (tCons (tVar i) t) (staM i f) := by
  intro N σ H B g Q R q
  unfold staM at q
  cases e : g.sl[i]? with
  | none => rw [e] at q; exact q.elim
  | some s =>
    cases s with
    | sta =>
      rw [e] at q
      obtain ⟨c, hc, e1⟩ := R.slots i _ e
      refine ⟨_, getD_some e1, ?_⟩
      exact h.run (P := fun x => FinX C N σ B x Q) R q (fun n ct z => z) (fun z => z) fun ds g' vs H1 B1 _ R1 L1 rp q1 => q1 _ H1 B1 R1 L1 (.cons ⟨c, hc, rfl⟩ (.dats rp))
    | _ => rw [e] at q; exact q.elim
theorem sat_call {t : TA} {f : M (List Slot)} {h : FnM} (hx : SatX C t f) : Sat C (tCallSD (spD C.K C.mg h) [] C.E t) (callM h C.ns f) := by
  intro N σ H B g Q R q
  refine hx N σ H B g _ R ?_
  unfold callM bindM at q
  cases e : f g with
  | bad => rw [e] at q; exact q.elim
  | exc n ct => rw [e] at q; exact q
  | ok ss g1 =>
    rw [e] at q
    intro vs H1 B1 R1 L1 ao
    rw [List.append_nil]
    have conv : ∀ {vs : List V} {ss : List Slot}, ArgsOk C B1 vs ss → ArgsOk ⟨C.K, C.mg, C.st, fun _ => C.E σ⟩ B1 vs ss := by
      intro vs ss a
      induction a with
      | nil => exact .nil
      | @cons v vs s ss a _ ih => exact .cons (by cases s <;> exact a) ih
    refine ⟨C.st, B1, ss, g1.ct, R1.sub, conv ao, fun c hc => ⟨(R1.st c hc).1, (R1.st c hc).2.1, (R1.st c hc).2.2.1⟩, ?_⟩
    have q : Fin C N σ B (match h C.ns ss g1.ct with
      | .ok d g' => .ok d { g1 with ct := g'.ct }
      | .exc n ct => .exc n ct
      | .bad => .bad) Q := q
    show (match h C.ns ss g1.ct with
      | .ok d g => ∀ v H' B', Post C.st H1 B1 H' B' g.ct → Rp C.K B' v d → Q v H'
      | .exc n ct' => ∀ cl H' B', Post C.st H1 B1 H' B' ct' → C.mg n = some (.ref cl) → C.E σ (.ref cl) none H'
      | .bad => False)
    cases e2 : h C.ns ss g1.ct with
    | bad => rw [e2] at q; exact q
    | exc n ct => rw [e2] at q; exact fun cl H' B' P hm => q cl H' B' (R1.post P).bare hm
    | ok d g2 => rw [e2] at q; exact fun v H' B' P rp => q v H' B' (R1.post P) (L1.trans P.b) rp
end

/-! ### defs -/
structure FnG (P : Program) (w : World) (K : PySem.W.Frag) (mg : Str → Option Value) (base : Heap) (k : Nat) (f : Addr) (fd : FuncData) (ps : List Str) (sp : Sp) : Prop where
  len : ∀ vs H Q E, sp vs H Q E → vs.length = ps.length
  run : ∀ (A : Around) (outer : List Env) (s : Shared) (H : Hp) (args : Args) (us : List Value) (vs : List V) (Q : VK) (E : XK), Room k A → A.guards = some [] → Env0 P w K mg base A outer s H → BindsTo s fd args (ps.zip us) → Vals vs us → sp vs H Q E →
    codeAny (model P w) A (.call (.ref f) args) (CR (L2N.CX P w) outer P w H s Q E) s
theorem FnG.mono {P : Program} {w : World} {K : PySem.W.Frag} {mg : Str → Option Value} {base : Heap} {j k : Nat} {f : Addr} {fd : FuncData} {ps : List Str} {sp : Sp} (F : FnG P w K mg base j f fd ps sp) (h : j ≤ k) : FnG P w K mg base k f fd ps sp :=
  ⟨F.len, fun A outer s H args us vs Q E hr => F.run A outer s H args us vs Q E (hr.mono h)⟩
theorem FnG.of {P : Program} {w : World} {K : PySem.W.Frag} {mg : Str → Option Value} {base : Heap} {k : Nat} {f : Addr} {fd : FuncData} {ps : List Str} {sp : Sp} (F : FnOk P w K mg base (L2N.CX P w) k f fd ps sp) : FnG P w K mg base k f fd ps sp :=
  ⟨F.len, fun A outer s H args us vs Q E hr _ => F.run A outer s H args us vs Q E hr⟩
section
variable {X : Cx} {k : Nat} {f : Addr} {fd : FuncData} {ps : List Str} {sp : Sp} {E : St → XK} {x : Str} {p pos : Pos} {e : Expr} {es : List Expr} {t : TA}
theorem pe_callG (F : FnG X.prog X.w X.K X.mg X.base k f fd ps sp) (hr : Room k X.A) (hgu : X.A.guards = some []) (hg : Gl X x) (hm : X.mg x = some (.ref f)) (hk : PySem.W.keepIn X.K (.ref f) = true) (hb : Binds X.K fd ps []) (hx : ∀ σ, PassesAt (L2N.CX X.prog X.w) X σ (E σ))
    (ha : PA X (e :: es) t) (hdb : (x == ("__debug__" : Str)) = false := by decide) (he : starEach (e :: es) X.env = (false, eval e X.env) :: starEach es X.env := by rfl) (hpl : (backTo pos (starEach es X.env)).any (·.1) = false := by rfl) :
    PE X (.Call (.Name x p) (e :: es) [] pos) (tCallSD sp [] E t) := by
  refine ⟨fun pins s σ H Q I h => ?_⟩
  refine wpAny_Call_Name_kw (ld_glob I hg hm (PySem.W.callWith_K (h₀ := X.base) I.ok.mod.kin hk (thn (ha.run pos pins s σ H _ I h) fun us s1 ⟨vs, H1, I1, r, q⟩ => ⟨I1.kIn, ?_⟩) he hpl) hdb)
  have q : sp (vs ++ []) H1 Q (E σ) := q
  rw [List.append_nil] at q
  have hl : us.length = ps.length := r.length ▸ F.len _ _ _ _ q
  have b := hb s1 us I1.kIn (by rw [List.append_nil]; exact hl)
  rw [List.append_nil] at b
  refine wpAny_call (codeAny_mono (F.run X.A X.stack s1 H1 ⟨us, []⟩ us vs Q (E σ) hr hgu I1.env0 b r q) fun r s' hq => ?_)
  match r with
  | .error e => exact hx σ pins H1 s1 e s' I1 hq
  | .ok (.ret u) => exact I1.after hq
  | .ok .next => exact hq.elim
  | .ok .brk => exact hq.elim
  | .ok .cont => exact hq.elim
end
section
variable {P : Program} {w : World} {K : PySem.W.Frag} {mg : Str → Option Value} {base : Heap}
/-- a def by its body -/
theorem fn_ofG {k : Nat} {x qual : Str} {st : Stmt} {f : Addr} {fd : FuncData} {N ps : List Str} {sp : Sp} (F : Fun K x qual st f fd) (S : FnScope N ps (defScope st)) (len : ∀ vs H Q E, sp vs H Q E → vs.length = ps.length)
    (hbody : ∀ (cdv : Value) (A : Around) (outer : List Env) (s : Shared) (H : Hp) (vs : List V) (Q : VK) (E : XK), Room k (A.deeper (envOfC qual (defScope st) s.heap.objs.size f cdv)) → (A.deeper (envOfC qual (defScope st) s.heap.objs.size f cdv)).guards = some [] → sp vs H Q E →
      ∃ t, PSs (cxOf (L2N.CX P w) P w K mg base N qual (defScope st) f cdv A outer s H E) (defBody st) t ∧ t { nx := fun _ H' => Q .non H', rt := Q } (start N vs) H) : FnG P w K mg base (k + 1) f fd ps sp := by
  obtain ⟨oc, od, kV, doc, pm, an, cdv, ct, osl, rfl, lk, hcd⟩ := F.ex
  refine ⟨len, fun A outer s H args us vs Q E hr hgu e0 hb r hsp => ?_⟩
  have KX : K.In s.heap := e0.mod.kin.keeps fun b o e => (e0.bs b o e).1
  refine codeAny_call_function hr.depth (KX _ _ lk) rfl S.co S.gen rfl (PySem.W.codeRec_of KX hcd) (hb _ _ _ _ (wpAny_newFunctionEnv_cells S.kind (fun y hy => ?_) fun env he s1 ic => ?_))
  · rcases S.par y.1 (List.of_mem_zip hy).1 with q | q
    · exact .inl q
    · exact .inr ⟨q, PySem.W.cellsFrom_some _ _ _ (.inl q)⟩
  · subst he
    refine ⟨(e0.mod.nolimit.keeps fun b o e => (e0.bs b o e).1).keeps ic.toInCall.keep, codeAny_func ?_⟩
    obtain ⟨t, ht, hq⟩ := hbody cdv A outer s H vs Q E (hr.deeper _) hgu hsp
    refine wpAny_mono (ht.run [] s1 (start N vs) H _ (inv_start S hr.hd e0 (len _ _ _ _ hsp) r ic) hq) (fun fl s' hs => ?_) fun e s' hs => hs
    match fl with
    | .ret u =>
      obtain ⟨v, σ', H', J, rv, q⟩ := hs
      exact ⟨v, H', J.os, J.bare, J.base, J.hok, rv, q⟩
    | .next =>
      obtain ⟨σ', H', J, q⟩ := hs
      exact ⟨V.non, H', J.os, J.bare, J.base, J.hok, rfl, q⟩
    | .brk => obtain ⟨_, _, _, q⟩ := hs; exact q.elim
    | .cont => obtain ⟨_, _, _, q⟩ := hs; exact q.elim
/-- a body as a def's telling; n: all its places -/
def runF (n : Nat) (body : List Int → M Fl) : FnM := fun ns ss ct => match body ns ⟨ss ++ List.replicate (n - ss.length) .no, ct⟩ with
  | .ok (.ret d) g => .ok d g
  | .ok .next g => .ok .none g
  | .ok _ _ => .bad
  | .exc n ct => .exc n ct
  | .bad => .bad
theorem Rep.start {C : Ctx} {N : List Str} {vs : List V} {ss : List Slot} {H B : Hp} {ct : Int} (L : Le B H) (ao : ArgsOk C B vs ss) (hst : ∀ c, C.st = some c → B c.a = none ∧ H c.a = some (.lst [.ref c.na, .int ct]) ∧ B c.na = some (.lst (c.ns.map V.int))) :
    Rep C ⟨H, B⟩ (start N vs) H B ⟨ss ++ List.replicate (N.length - ss.length) .no, ct⟩ := by
  have no : ∀ i, ¬ ownAt (ss ++ List.replicate (N.length - ss.length) Slot.no) i := fun i ⟨s, e, h⟩ => by
    by_cases hi : i < ss.length
    · rw [List.getElem?_append_left hi] at e
      obtain ⟨v, _, a⟩ := ao.get e
      cases s <;> first | exact a.elim | cases h
    · rw [List.getElem?_append_right (by omega)] at e
      rw [List.getElem?_replicate] at e
      split at e
      · cases e; cases h
      · cases e
  refine ⟨?_, fun i s e => ?_, fun i j p _ hi => (no i hi).elim, L, fun _ _ q => q, fun _ _ q => .inl q, fun i p hi => (no i hi).elim, fun _ _ q _ => q, fun c hc => ⟨(hst c hc).1, (hst c hc).2.1, (hst c hc).2.2, ?_⟩⟩
  · unfold L2.start
    simp [ao.length]
  · by_cases hi : i < ss.length
    · have e : (ss ++ List.replicate (N.length - ss.length) Slot.no)[i]? = some s := e
      rw [List.getElem?_append_left hi] at e
      obtain ⟨v, hv, a⟩ := ao.get e
      have h1 : (L2.start N vs)[i]?.getD none = some v := by
        unfold L2.start
        rw [List.getElem?_append_left (by rw [List.length_map, ao.length]; exact hi), List.getElem?_map, hv]
        rfl
      rw [h1]
      cases s with
      | dat d => exact ⟨v, rfl, a⟩
      | sta => obtain ⟨c, hc, rfl⟩ := a; exact ⟨c, hc, rfl⟩
      | _ => exact a.elim
    · have e : (ss ++ List.replicate (N.length - ss.length) Slot.no)[i]? = some s := e
      rw [List.getElem?_append_right (by omega)] at e
      rw [List.getElem?_replicate] at e
      split at e
      · cases e; trivial
      · cases e
  · show H c.a ≠ none
    rw [(hst c hc).2.1]; simp
theorem Rep.end_ {C : Ctx} {σ : St} {H B H' B' : Hp} {g : Sg} (R : Rep C ⟨H, B⟩ σ H' B' g) : Post C.st H B H' B' g.ct := ⟨R.up, R.new, R.sub, R.keep, fun c hc => (R.st c hc).2.1⟩
/-- THE RULE: a def of the text, by its mirror -/
theorem fnD {k : Nat} {x qual : Str} {st : Stmt} {f : Addr} {fd : FuncData} {N ps : List Str} {m : List Int → M Fl} {h : FnM} (F : Fun K x qual st f fd) (S : FnScope N ps (defScope st)) (hm : ∀ ns ss ct, h ns ss ct ≠ .bad → ss.length = ps.length ∧ h ns ss ct = runF N.length m ns ss ct)
    (hbody : ∀ (stc : Option StC) (cdv : Value) (A : Around) (outer : List Env) (s : Shared) (H : Hp) (E : XK), Room k (A.deeper (envOfC qual (defScope st) s.heap.objs.size f cdv)) → (A.deeper (envOfC qual (defScope st) s.heap.objs.size f cdv)).guards = some [] →
      DSs ⟨K, mg, stc, fun _ => E⟩ (cxOf (L2N.CX P w) P w K mg base N qual (defScope st) f cdv A outer s H E) (defBody st) (m (nsOf stc))) : FnG P w K mg base (k + 1) f fd ps (spD K mg h) := by
  refine fn_ofG F S (fun vs H Q E hs => ?_) fun cdv A outer s H vs Q E hr hgu hs => ?_
  · obtain ⟨st, B, ss, ct, L, ao, hst, q⟩ := hs
    have nb : h (Ctx.ns ⟨K, mg, st, fun _ => E⟩) ss ct ≠ .bad := fun e => by rw [e] at q; exact q
    rw [ao.length]
    exact (hm _ _ _ nb).1
  · obtain ⟨st, B, ss, ct, L, ao, hst, q⟩ := hs
    have nb : h (Ctx.ns ⟨K, mg, st, fun _ => E⟩) ss ct ≠ .bad := fun e => by rw [e] at q; exact q
    refine ⟨_, hbody st cdv A outer s H E hr hgu, ⟨H, B⟩, B, _, Rep.start (ct := ct) L ao hst, ?_⟩
    rw [(hm _ _ _ nb).2] at q
    unfold runF at q
    revert q
    cases m (Ctx.ns ⟨K, mg, st, fun _ => E⟩) ⟨ss ++ List.replicate (N.length - ss.length) .no, ct⟩ with
    | bad => exact fun q => q
    | exc n ct' => exact fun q cl σ' H' B' R hm => q cl H' B' R.end_ hm
    | ok fl g =>
      cases fl with
      | ret d => exact fun q v σ' H' B' R _ rp => q v H' B' R.end_ rp
      | next => exact fun q σ' H' B' R _ => q _ H' B' R.end_ .non
      | brk => exact fun q => q.elim
      | cont => exact fun q => q.elim
end

/-! ### raise -/
def raiseM {α : Type} (n : Str) : M α := fun g => .exc n g.ct
section
variable {C : Ctx} {X : Cx}
theorem satS_raise {n : Str} {c : Addr} (hm : C.mg n = some (.ref c)) : SatS C (fun _ σ H => C.E σ (.ref c) none H) (raiseM n) := fun N σ H B g D R q => q c σ H B R.bare hm
end
end DL

set_option Elab.async false
set_option linter.all false
set_option maxRecDepth 100000
set_option maxHeartbeats 4000000
/-! DL11: while an exception is handled: a list comprehension over a range; isinstance of the handled exception; the def that tells the error's kind. -/
namespace DL
open PySem PySem.Spec L2 L2H
open PyProof.Rows hiding St

section
variable {X : Cx}
/-- a block whose pins are the def's -/
abbrev blkH (X : Cx) (s : Shared) (H : Hp) (scope : Scope) (ce : Env) (fp : List Addr) : Cx := { X.blk s H scope ce fp with pn := X.pn }
theorem Inv.toBlkH {pins : List (Addr × Obj)} {σ σ' : L2.St} {H0 H : Hp} {s0 s : Shared} {scope : Scope} {ce : Env} {fp : List Addr} (I0 : Inv X pins σ H0 s0) (hL : s0.heap.objs.size ≤ ce.locals) (I : Inv (X.blk s0 H0 scope ce fp) [] σ' H s)
    (kp : ∀ b o, s0.heap.get? b = some o → H0 b = none → (∀ v, o.data ≠ .cell v) → s.heap.get? b = some o ∧ H b = none) : Inv (blkH X s0 H0 scope ce fp) [] σ' H s :=
  ⟨⟨I.ok.mod, I.ok.kind, I.ok.glob, I.ok.blt, I.ok.above, I.ok.inj, I.ok.has, I.ok.cab, I.ok.hd, I.ok.frames, I.ok.stk, I.ok.exf, I.ok.bs, I.ok.bsz, I.ok.noex, I.ok.exfs, I.ok.funs, I.ok.frf⟩, I.os, I.bare, I.base, I.loc, I.cell, I.free, I.freeC,
    fun p hp => by
      have hp : p ∈ X.pn := by rw [List.append_nil] at hp; exact hp
      obtain ⟨e, n, nl, nf, d⟩ := I0.pin p (List.mem_append_left _ hp)
      obtain ⟨e1, n1⟩ := kp _ _ e n d
      refine ⟨e1, n1, fun z => ?_, fun hm => ?_, d⟩
      · have lt := Heap.lt_size e
        rw [z] at lt
        exact absurd (Nat.lt_of_lt_of_le lt hL) (Nat.lt_irrefl _)
      · exact (List.mem_cons.mp (I0.stkSub p.1 hm)).elim nl nf, I.hok, I.len⟩
/-- the turns of a list comprehension, an exception being handled -/
theorem lc_hot {pins : List (Addr × Obj)} {s : Shared} {σ : L2.St} {H : Hp} {Q : VK} {elt tg iter : Expr} {ifs : List Expr} {scope : Scope} {own : List (Str × Nat)} {pos pos' : Pos} {wi : TI} {g : TG} {tt : TT} {te : TE} {use : Option (Value → Sem Unit)} {Qf : Value → Shared → Prop}
    (hc : HotC X) (hN : X.N.Nodup) (I : Inv X pins σ H s) (hi : PIH X tg iter wi) (ok : BlkOk X.N X.env.scope scope own)
    (hg : ∀ (s : Shared) (H : Hp) (C : Addr) (cl : List (Str × Addr)) (fp : List Addr), PG (blkH X s H scope (compEnvC scope cl C X.env) fp) tg g) (ht : ∀ (s : Shared) (H : Hp) (C : Addr) (cl : List (Str × Addr)) (fp : List Addr), PTs (blkH X s H scope (compEnvC scope cl C X.env) fp) ifs tt)
    (he : ∀ (s : Shared) (H : Hp) (C : Addr) (cl : List (Str × Addr)) (fp : List Addr), PE (blkH X s H scope (compEnvC scope cl C X.env) fp) elt te) (hs : ∀ x, foldedSetIterable iter X.env x = pure x)
    (h : tLc wi g tt te (own.map (·.2)) σ H Q)
    (hRR : ∀ D C s' m H', Inv X pins σ H' s' → Q (.ref D) H' → s'.heap.Ns C m → FpOk X pins H' C → compPost (model X.prog X.w) X.A X.xe use Qf (.ref D) C (.ok .next) s') :
    wpAny (model X.prog X.w) X.A (comprehension (.ListComp elt [⟨tg, iter, ifs, 0⟩] scope pos) scope X.env pos' (newList []) false (eval iter X.env) use) Qf X.xe s := by
  have hfree : ∀ y ∈ scope.names, y.2 = .free → ∃ c, X.env.cells.lookup y.1 = some c := fun y hy e => (ok.free y hy e).elim (fun k => I.ok.has _ (.inl k)) fun k => I.ok.has _ (.inr k)
  refine wpAny_comprehension_free (use := use) rfl hs (closure_ok hfree) ok.kind (fun y hy e => by rw [ok.uniq y hy, e]) (thn (hi.run pins s σ H _ I h) fun xv s1 hx => thn hx fun itv s2 h2 => ?_)
  obtain ⟨it, fp, tn, J, H2, rfl, I2, T, st2, f2, q⟩ := h2
  refine wpAny_newObj_type (newEnv_comp ?_) (by show 0 ≤ sizeLine; decide)
  have hDn : H2 s2.heap.objs.size = none := I2.hok.fresh (Nat.le_refl _)
  obtain ⟨W, ⟨m0, w0⟩, turn⟩ := q _ hDn
  have I3 : Inv X pins σ (upd H2 s2.heap.objs.size (.lst [])) { s2 with heap := s2.heap.push { cls := .type "list", data := .seq ([] : List Value).toArray } } :=
    I2.laid (t' := s2.toks) (fun b o e => Heap.get?_push_of_some _ e) (Nat.le_refl _) ⟨Nat.zero_le _, [], 0, .nil, Heap.get?_push_size _ rfl⟩
  have old : ∀ b ∈ fp, b < s2.heap.objs.size := fun b hb => let ⟨_, e, _⟩ := T.obj _ _ st2 b hb; Heap.lt_size e
  generalize hD : s2.heap.objs.size = D at *
  generalize hs3 : ({ s2 with heap := s2.heap.push { cls := .type "list", data := .seq ([] : List Value).toArray } } : Shared) = s3 at *
  have h3 : s3.heap = s2.heap.push { cls := .type "list", data := .seq ([] : List Value).toArray } := by rw [← hs3]
  have f3 : ∀ b ∈ fp, FpOk X pins (upd H2 D (.lst [])) b ∧ b < s3.heap.objs.size := fun b hb => by
    have lt := old b hb
    exact ⟨⟨(upd_ne (Nat.ne_of_lt lt)).trans (f2 b hb).1, (f2 b hb).2⟩, by rw [h3, Heap.size_push, hD]; exact Nat.lt_succ_of_lt lt⟩
  have st3 : tn 0 s3.heap := T.keep _ _ _ st2 fun b _ o e => by rw [h3]; exact Heap.get?_push_of_some _ e
  have I40 := block_start I3 ok hN f3
  have pg := hg s3 (upd H2 D (.lst [])) s3.heap.objs.size (cellsFrom (s3.heap.objs.size + 1) scope.names (cloFrom X.env.cells scope.names [])) fp
  have pt := ht s3 (upd H2 D (.lst [])) s3.heap.objs.size (cellsFrom (s3.heap.objs.size + 1) scope.names (cloFrom X.env.cells scope.names [])) fp
  have pe := he s3 (upd H2 D (.lst [])) s3.heap.objs.size (cellsFrom (s3.heap.objs.size + 1) scope.names (cloFrom X.env.cells scope.names [])) fp
  have nfp : ∀ b ∈ fp, (upd H2 D (.lst [])) b = none := fun b hb => (f3 b hb).1.1
  show codeAny _ _ (.compStart (.ListComp elt [⟨tg, iter, ifs, 0⟩] scope pos) 0 (.ref it) (.ref D) (compEnvC scope (cellsFrom (s3.heap.objs.size + 1) scope.names (cloFrom X.env.cells scope.names [])) s3.heap.objs.size X.env)) (compPost (model X.prog X.w) X.A X.xe use Qf (.ref D) s3.heap.objs.size) { s3 with heap := pushCells (s3.heap.push { cls := .type "dict", data := .dict #[] }) scope.names }
  generalize hce : compEnvC scope (cellsFrom (s3.heap.objs.size + 1) scope.names (cloFrom X.env.cells scope.names [])) s3.heap.objs.size X.env = ce at I40 pg pt pe ⊢
  have cL : ce.locals = s3.heap.objs.size := by subst hce; rfl
  generalize hH3 : upd H2 D (.lst []) = H3 at I3 I40 pg pt pe w0 nfp f3
  generalize hs4 : ({ s3 with heap := pushCells (s3.heap.push { cls := .type "dict", data := .dict #[] }) scope.names } : Shared) = s4 at I40 ⊢
  have k4 : ∀ b o, s3.heap.get? b = some o → s4.heap.get? b = some o := fun b o e => by rw [← hs4]; exact pushCells_keeps _ _ _ _ (Heap.get?_push_of_some _ e)
  have st4 : tn 0 s4.heap := T.keep _ _ _ st3 fun b _ o e => k4 b o e
  have I4 : Inv (blkH X s3 H3 scope ce fp) [] (wipe σ (own.map (·.2))) H3 s4 := Inv.toBlkH I3 (by rw [cL]; exact Nat.le_refl _) I40 fun b o e n _ => ⟨k4 b o e, n⟩
  have hcB : HotC (blkH X s3 H3 scope ce fp) := hc
  have cells : ∀ {σ' : L2.St} {H' : Hp} {s' : Shared}, Inv (blkH X s3 H3 scope ce fp) [] σ' H' s' → tn 0 s4.heap → (∀ b ∈ fp, H' b = none) → ∀ b ∈ fp, FpOk (blkH X s3 H3 scope ce fp) [] H' b := fun {σ' H' s'} I' _ hn b hb =>
    ⟨hn b hb, (I'.ok.exf b hb).1, I'.ok.exfs b hb, .inl hb, fun x c e => (I'.ok.exf b hb).2 x c e, fun p hp => (f3 b hb).1.2.2.2.2.2 p (by
      have hp : p ∈ X.pn := by rw [List.append_nil] at hp; exact hp
      exact List.mem_append_left _ hp)⟩
  have loop : codeAny (model X.prog X.w) X.A (.compLoop (.ListComp elt [⟨tg, iter, ifs, 0⟩] scope pos) 0 (.ref it) (.ref D) ce) (compPost (model X.prog X.w) X.A X.xe use Qf (.ref D) s3.heap.objs.size) s4 := by
    refine compLoop_any (fun n s' => ∃ i H', Inv (blkH X s3 H3 scope ce fp) [] (wipe σ (own.map (·.2))) H' s' ∧ tn i s'.heap ∧ (∀ b ∈ fp, H' b = none) ∧ W i n H') ?_ m0 ⟨0, H3, I4, st4, nfp, w0⟩
    rintro n s5 ⟨i, H5, I5, st5, n5, w5⟩
    rcases turn i n H5 w5 with ⟨stop, qq⟩ | ⟨go, Nx, hNx, step⟩
    · refine thnF (T.done (blkH X s3 H3 scope ce fp) rfl rfl rfl hcB i [] s5 _ H5 (fun _ _ => False) I5 (cells I5 st4 n5) st5 stop) fun r s6 ⟨hr, I6⟩ => ?_
      subst hr
      have I7 : Inv X pins σ H5 s6 := I3.call' (ch := fp) I6.os I6.base I6.hok I6.bare fun b hb => let z := (f3 b hb).1; ⟨z.2.2.2.1, z.2.1, z.2.2.2.2.1, z.2.2.2.2.2⟩
      have nC : H5 s3.heap.objs.size = none := cL ▸ (show H5 ce.locals = none from I6.free)
      obtain ⟨m, hn, _⟩ := I6.loc
      have hn : s6.heap.Ns s3.heap.objs.size m := cL ▸ (show s6.heap.Ns ce.locals m from hn)
      exact hRR D s3.heap.objs.size s6 m H5 I7 qq hn (I3.fpOk (Nat.le_refl _) nC)
    · refine thnF (T.item (blkH X s3 H3 scope ce fp) rfl rfl rfl hcB i [] s5 _ H5 (fun _ _ => False) I5 (cells I5 st4 n5) st5 go) fun r s6 ⟨u, hr, h6⟩ => ?_
      subst hr
      refine thnF h6 fun _ s7 ⟨x, H7, I7, r7, y7, st7, n7⟩ => ?_
      refine thnF (pg.run _ s7 _ H7 x u _ (I7.pinned (cells I7 st4 n7) (T.obj _ _ st7)) r7 (step x H7 y7)) fun _ s8 ⟨σ8, H8, I8, hw8, q8⟩ => ?_
      refine thnF (pt.run _ s8 σ8 H8 _ I8 q8) fun b s9 ⟨H9, I9, q9⟩ => ?_
      have fin : ∀ {s' : Shared} {H' : Hp}, Inv (blkH X s3 H3 scope ce fp) ([] ++ pinsAt fp s7.heap) σ8 H' s' → Nx H' → ∃ m, m < n ∧ ∃ i H', Inv (blkH X s3 H3 scope ce fp) [] (wipe σ (own.map (·.2))) H' s' ∧ tn i s'.heap ∧ (∀ b ∈ fp, H' b = none) ∧ W i m H' := fun {s' H'} I' nx => by
        obtain ⟨m', hm, w'⟩ := hNx H' nx
        have pin' : ∀ b ∈ fp, ∀ o, s7.heap.get? b = some o → s'.heap.get? b = some o ∧ H' b = none := fun b hb o e =>
          let z := I'.pin (b, o) (List.mem_append_right _ (List.mem_append_right _ (mem_pinsAt hb e)))
          ⟨z.1, z.2.1⟩
        refine ⟨m', hm, i + 1, H', (I'.unpinned (pins := [])).weak (by rw [← hw8, wipe_length]) (fun j v e => (wipe_some (hw8 ▸ e)).1), T.keep _ _ _ st7 fun b hb o e => (pin' b hb o e).1, fun b hb => ?_, w'⟩
        obtain ⟨o, e, _⟩ := T.obj _ _ st7 b hb
        exact (pin' b hb o e).2
      cases b with
      | false =>
        rw [if_neg Bool.false_ne_true] at q9 ⊢
        exact fin I9 q9
      | true =>
        rw [if_pos rfl] at q9 ⊢
        refine thnF (pe.run _ s9 σ8 H9 _ I9 q9) fun z s10 ⟨yv, H10, I10, r10, acc, hD10, hz10, nx⟩ => ?_
        exact app_ok (X := blkH X s3 H3 scope ce fp) I10 hD10 hz10 r10 fun s11 I11 => fin I11 nx
  exact codeAny_compStart_list loop (T.self X.A 0 _ _ _ st4 loop)
theorem ps_setLcH {i : Nat} {y : Str} {py : Pos} {elt tg iter : Expr} {ifs : List Expr} {scope : Scope} {own : List (Str × Nat)} {pos spos : Pos} {wi : TI} {g : TG} {tt : TT} {te : TE} (hc : HotC X) (hN : X.N.Nodup) (hy : X.N[i]? = some y) (hyl : X.env.scope.names.lookup y = some .local)
    (hsw : swapsWith (.ListComp elt [⟨tg, iter, ifs, 0⟩] scope pos) (some (.Name y py)) spos.line X.env = pure true) (hi : PIH X tg iter wi) (ok : BlkOk X.N X.env.scope scope own)
    (hg : ∀ (s : Shared) (H : Hp) (C : Addr) (cl : List (Str × Addr)) (fp : List Addr), PG (blkH X s H scope (compEnvC scope cl C X.env) fp) tg g) (ht : ∀ (s : Shared) (H : Hp) (C : Addr) (cl : List (Str × Addr)) (fp : List Addr), PTs (blkH X s H scope (compEnvC scope cl C X.env) fp) ifs tt)
    (he : ∀ (s : Shared) (H : Hp) (C : Addr) (cl : List (Str × Addr)) (fp : List Addr), PE (blkH X s H scope (compEnvC scope cl C X.env) fp) elt te) (hs : ∀ x, foldedSetIterable iter X.env x = pure x := by intro _; rfl) :
    PS X (.Assign [.Name y py] (.ListComp elt [⟨tg, iter, ifs, 0⟩] scope pos) spos) (tAsg (tLc wi g tt te (own.map (·.2))) (gName i)) := by
  refine ⟨fun pins s σ H D I h => ?_⟩
  rw [exec_Assign_Name_used _ _ _ _ hsw]
  refine wpAny_bind (wpAny_standAt (wpAny_bind ?_))
  show wpAny _ X.A (do let _ ← comprehension (.ListComp elt [⟨tg, iter, ifs, 0⟩] scope pos) scope X.env (firstIterPos [⟨tg, iter, ifs, 0⟩] pos) (newList []) false (eval iter X.env) (some (assign (.Name y py) X.env))) _ _ s
  have h : tLc wi g tt te (own.map (·.2)) σ H (fun x H1 => gName i x σ H1 D.nx) := h
  refine wpAny_bind (thn (lc_hot (Qf := fun _ s' => SP X pins D .next s') hc hN I hi ok hg ht he hs h fun L C s' m H' I' q hn f => ?_) fun _ s' hq => wpAny_pure (wpAny_pure hq))
  obtain ⟨f0, f1, f2, f3, f4, f5⟩ := f
  refine wpAny_assign_Name (store_ok2 (v := V.ref L) I' hN hy (.inl hyl) rfl (fun s2 I2 ⟨a, sb, ha⟩ => ⟨m, hn.sameBut sb fun e => ha.elim (fun z => f1 (e.trans z)) fun z => f4 y a z e.symm, fun h3 sb3 => ?_⟩) (.inr hyl))
  exact ⟨_, H', I2.turned (t' := s2.toks) (fun b o hb e => (sb3.2 b hb).trans e) f0 f1 f3 f4 f5, q⟩
end
end DL

set_option Elab.async false
set_option linter.all false
set_option maxRecDepth 100000
set_option maxHeartbeats 4000000
/-! DL12: repr of data; stars in displays; list * int; count; len(set(..)); is; a def chosen from a list, called. -/
namespace DL
open PySem PySem.Spec L2 StX
open PyProof.Rows hiding St

/-! ### repr -/
def rRepr (K : PySem.W.Frag) : List V → Hp → VK → Prop := fun xs H Q => ∃ (a : Addr) (d : D), xs = [.ref a] ∧ Dp K H (.ref a) d ∧ d.showable = true ∧ d.canLay0 = true ∧ d.depth ≤ 50 ∧ d.shown.length ≤ sizeLine ∧ Q (.str d.shown) H
theorem call_repr {X : Cx} (hg : X.A.guards = some []) (hu : X.A.units + 64 < cLine) : CallR X (.builtin "repr") (rRepr X.K) := by
  intro pins s σ H xs us Q I r h
  obtain ⟨a, d, rfl, hd, h1, h2, h3, h4, q⟩ := h
  obtain ⟨u, rfl, ru⟩ := r.one
  obtain rfl : u = Value.ref a := ru
  obtain ⟨as, rd⟩ := Dp.reads I d (.ref a) (.ref a) hd rfl
  exact repr_of_reads' rd h1 (PySem.PyData.noDict_hsm (PySem.PyData.hasDict_of_canLay d h2)) hg (by omega) (fun b o e => e) (fun h' u' tk k => ⟨.str d.shown, H, I.kept k, ⟨_, rfl⟩, q⟩) h4
def reprD (ds : List D) : Option D := match ds with
  | [d] => if (seqD d).isSome = true ∧ d.showable = true ∧ d.canLay0 = true ∧ d.depth ≤ 50 ∧ d.shown.length ≤ sizeLine then some (.str d.shown) else none
  | _ => none
section
variable {C : Ctx}
theorem vn_repr : VN C (rRepr C.K) reprD := by
  intro H B xs ds d Q L r e q
  cases r with
  | nil => cases e
  | cons a b =>
    cases b with
    | cons _ _ => cases e
    | nil =>
      obtain ⟨⟨h0, h1, h2, h3, h4⟩, rfl⟩ := if_some e
      obtain ⟨ys, ey⟩ := Option.isSome_iff_exists.mp h0
      obtain ⟨sq, vs, rfl, _, _⟩ := a.seq ey
      exact ⟨_, _, rfl, Rp.dp L h2 a, h1, h2, h3, h4, q _ H B .refl (.str _)⟩

/-! ### *e in a display -/
def starM (f : M D) (k : M (List D)) : M (List D) := bindM f fun d => bindM (liftO (seqD d)) fun xs => bindM k fun ds => pureM (xs ++ ds)
theorem satA_star {te : TE} {t : TA} {f : M D} {k : M (List D)} (h : Sat C te f) (h2 : SatA C t k) : SatA C (tStar C.K te t) (starM f k) := by
  intro N σ H B g Q R q
  refine h.run (P := fun x => FinA C N σ B x Q) R q (fun n ct z => z) (fun z => z) fun d g' v H1 B1 _ R1 L1 rp q1 => ?_
  cases e : seqD d with
  | none => rw [e] at q1; exact q1.elim
  | some xs =>
    rw [e] at q1
    obtain ⟨sq, vs, rfl, hq, rr⟩ := rp.seq e
    refine ⟨_, vs, rfl, (sq_or (Sq.le R1.sub hq)).symm, ?_⟩
    exact h2.run (P := fun x => FinA C N σ B x Q) R1 q1 (fun n ct z => z) (fun z => z) fun ds g2 ws H2 B2 _ R2 L2' rp2 q2 => q2 _ H2 B2 R2 (L1.trans L2') ((rr.le L2').append rp2)

/-! ### list * int -/
theorem op_mulX {X : Cx} : OpR X (binaryOp .Mult) (fun x y H Q => rI CMul (fun i j => .int (i * j)) x y H Q ∨ rRep x y H Q) := op_mul.or op_rep
def mulXD : D → D → Option D
  | .list xs, .int k => if -(2 ^ 63) ≤ k ∧ k < 2 ^ 63 ∧ xs.length * k.toNat ≤ sizeLine then some (.list (List.replicate k.toNat xs).flatten) else none
  | x, y => mulD x y
theorem Rps.rep {K : PySem.W.Frag} {B : Hp} {vs : List V} {ds : List D} (r : Rps K B vs ds) : ∀ n : Nat, Rps K B (List.replicate n vs).flatten (List.replicate n ds).flatten
  | 0 => .nil
  | n + 1 => by rw [List.replicate_succ, List.replicate_succ, List.flatten_cons, List.flatten_cons]; exact r.append (Rps.rep r n)
theorem v2_mulX : V2 C (fun x y H Q => rI CMul (fun i j => .int (i * j)) x y H Q ∨ rRep x y H Q) mulXD := by
  intro H B x y dx dy d Q L rx ry e q
  cases rx with
  | lst hx rx =>
    rename_i a1 vs1 ds1
    cases ry with
    | int k =>
      obtain ⟨⟨h1, h2, h3⟩, rfl⟩ := if_some e
      refine .inr ⟨_, k, vs1, rfl, rfl, L _ _ hx, h1, h2, by rw [rx.length]; exact h3, fun p hp => ?_⟩
      have G := Grow.upd (o := .lst (List.replicate k.toNat vs1).flatten) hp L
      exact q _ _ _ G (.lst upd_same ((rx.rep _).le G.b))
    | _ => cases e
  | int i => exact .inl (v2_mul H B _ _ _ _ d Q L (.int i) ry e q)
  | _ => cases e

/-! ### is -/
def isNo (d : D) : Bool := match d with
  | .none => true
  | _ => false
def isND (neg : Bool) : D → D → Option D := fun x y => match y with
  | .none => some (.bool (neg.xor (isNo x)))
  | _ => none
theorem isN_eq {B : Hp} {x : V} {dx : D} (r : Rp C.K B x dx) : isNo dx = decide (x = .non) := by cases r <;> simp [isNo]
theorem v2_isN : V2 C (fun x y H Q => y = .non ∧ Q (.bl (decide (x = .non))) H) (isND false) := by
  intro H B x y dx dy d Q L rx ry e q
  cases ry with
  | non =>
    cases e
    refine ⟨rfl, q _ H B .refl ?_⟩
    rw [isN_eq rx, Bool.false_xor]
    exact .bl _
  | _ => cases e
theorem v2_notN : V2 C (fun x y H Q => y = .non ∧ Q (.bl (!decide (x = .non))) H) (isND true) := by
  intro H B x y dx dy d Q L rx ry e q
  cases ry with
  | non =>
    cases e
    refine ⟨rfl, q _ H B .refl ?_⟩
    rw [isN_eq rx, Bool.true_xor]
    exact .bl _
  | _ => cases e
def isBD (neg : Bool) : D → D → Option D
  | .bool a, .bool b => some (.bool (neg.xor (decide (a = b))))
  | _, _ => none
theorem v2_isB : V2 C rIsB (isBD false) := by
  intro H B x y dx dy d Q L rx ry e q
  cases rx with
  | bl a =>
    cases ry with
    | bl b => cases e; exact ⟨a, b, rfl, rfl, q _ H B .refl (by rw [Bool.false_xor]; exact .bl _)⟩
    | _ => cases e
  | _ => cases e
theorem v2_notB : V2 C rNotB (isBD true) := by
  intro H B x y dx dy d Q L rx ry e q
  cases rx with
  | bl a =>
    cases ry with
    | bl b => cases e; exact ⟨a, b, rfl, rfl, q _ H B .refl (by rw [Bool.true_xor]; exact .bl _)⟩
    | _ => cases e
  | _ => cases e

/-! ### xs.count(k), len(set(xs)) -/
def listInts (d : D) : Option (List Int) := match d with
  | .list xs => intsD xs
  | _ => none
def oneInt (d : D) : Option Int := match d with
  | .int n => some n
  | _ => none
theorem oneInt_some {d : D} {n : Int} (h : oneInt d = some n) : d = .int n := by
  cases d <;> first | (cases h; rfl) | cases h
theorem Rp.listInts {B : Hp} {v : V} {d : D} {ns : List Int} (r : Rp C.K B v d) (h : listInts d = some ns) : ∃ a, v = .ref a ∧ B a = some (.lst (ns.map V.int)) ∧ d = .list (ns.map PyData.int) := by
  cases r with
  | lst hb rr =>
    have h : intsD _ = some ns := h
    obtain rfl := intsD_some h
    obtain rfl := rr.of_ints
    exact ⟨_, rfl, hb, rfl⟩
  | _ => cases h
def cntM (f k : M D) : M D := bindM f fun d => bindM (liftO (listInts d)) fun ns => bindM k fun y => bindM (liftO (oneInt y)) fun n => pureM (.int (ns.count n : Nat))
theorem sat_cnt {to te : TE} {f k : M D} (h : Sat C to f) (h2 : Sat C te k) : Sat C (tBM C.K "list" (rCntI C.K) to (tCons te tNil)) (cntM f k) := by
  intro N σ H B g Q R q
  refine h.run (P := fun x => Fin C N σ B x Q) R q (fun n ct z => z) (fun z => z) fun d g' v H1 B1 f1 R1 L1 rp q1 => ?_
  cases e : listInts d with
  | none => rw [e] at q1; exact q1.elim
  | some ns =>
    rw [e] at q1
    obtain ⟨a, rfl, hb, rfl⟩ := rp.listInts e
    refine ⟨.inl ⟨rfl, _, .inl (.inl (R1.sub _ _ hb))⟩, ?_⟩
    refine h2.run (P := fun x => Fin C N σ B x Q) R1 q1 (fun n ct z => z) (fun z => z) fun y g2 w H2 B2 _ R2 L2' rp2 q2 => ?_
    cases e1 : oneInt y with
    | none => rw [e1] at q2; exact q2.elim
    | some n =>
      rw [e1] at q2
      obtain rfl := oneInt_some e1
      cases rp2
      exact ⟨a, ns, n, rfl, rfl, SqL.of (R2.sub _ _ (L2' _ _ hb)), q2 _ H2 B2 R2 (L1.trans L2') (.int _)⟩
/-- how many unlike ones -/
def unlike (ns : List Int) : Nat := (firstMet (fun i => ns.getD i 0) ns.length).length
def tLenSet2 (K : PySem.W.Frag) (ta : TE) : TE := fun σ H Q => ta σ H fun x H1 => ∃ (l : Addr) (ns : List Int), x = V.ref l ∧ SqL K H1 l (ns.map V.int) ∧ ns.length < 64 ∧ Q (.int (unlike ns : Nat)) H1
theorem pe_lenSet2 {X : Cx} {a : Expr} {ta : TE} {p p2 q pos : Pos} (hc : X.calm = true) (hg : Gl X "len") (hm : X.mg "len" = none) (hg2 : Gl X "set") (hm2 : X.mg "set" = none) (ha : PE X a ta)
    (na : starEach [a] X.env = (false, eval a X.env) :: starEach [] X.env := by rfl) : PE X (.Call (.Name "len" p) [.Call (.Name "set" p2) [a] [] q] [] pos) (tLenSet2 X.K ta) := by
  refine ⟨fun pins s σ H Q I h => ?_⟩
  refine Call_ (ld_blt I hg hm PySem.boot_len (PyProof.Rows.callWith_builtin1 (PyProof.Rows.args_cons ?_ rfl) rfl rfl))
  refine Call_ (ld_blt I hg2 hm2 PyProof.Rows.boot_set (PyProof.Rows.callWith_type1 (PyProof.Rows.args_cons (thn (ha.run pins s σ H _ I h) fun v s1 ⟨x, H1, I1, r1, q1⟩ => PyProof.Rows.args_nil ?_) na) na rfl))
  obtain ⟨l, ns, rfl, hq, h1, q1⟩ := q1
  cases r1
  obtain ⟨its, r, pl, hz⟩ := I1.list hq
  have hl : its.toArray.size = ns.length := by rw [List.size_toArray, ← r.length, List.length_map]
  refine call_set_list (I1.ok.hd hc) pl.isList (ns := ns) (by simpa using r.ints) (by unfold scanBound; omega) fun h' tk hS hk => PyProof.Rows.args_nil ?_
  rw [hl] at hS
  obtain ⟨o, es, ep, t, ho, hex, hd, _, _, _, hf, hn⟩ := hS
  have I2 : Inv X pins σ H1 { s1 with heap := h', toks := tk } := I1.kept fun b o e => hk b o (Heap.lt_size e) e
  have hle : unlike ns ≤ ns.length := by
    have : ∀ (l : List Int) (acc : List Int), (l.foldl step_dedup acc).length ≤ acc.length + l.length := by
      intro l
      induction l with
      | nil => intro acc; simp
      | cons x r ih =>
        intro acc
        rw [List.foldl_cons]
        refine Nat.le_trans (ih _) ?_
        unfold step_dedup
        split
        · simp
        · simp; omega
    have := this ((List.range ns.length).map fun i => ns.getD i 0) []
    simpa [unlike, firstMet] using this
  refine call_len_set ho hex hd hf (by rw [hn]; show ((unlike ns : Nat) : Int) < _; omega) ⟨.int (unlike ns : Nat), H1, I2.tok _, ⟨_, by rw [hn]; rfl⟩, q1⟩
def lenSetD (d : D) : Option D := (listInts d).bind fun ns => if ns.length < 64 then some (.int (unlike ns : Nat)) else none
theorem sat_lenSet {ta : TE} {f : M D} (h : Sat C ta f) : Sat C (tLenSet2 C.K ta) (op1 lenSetD f) := by
  intro N σ H B g Q R q
  refine h.run (P := fun x => Fin C N σ B x Q) R q (fun n ct z => z) (fun z => z) fun d g' v H1 B1 f1 R1 L1 rp q1 => ?_
  obtain ⟨dd, e, q2⟩ := lift_fin R1 L1 q1
  unfold lenSetD at e
  cases e1 : listInts d with
  | none => rw [e1] at e; cases e
  | some ns =>
    rw [e1] at e
    obtain ⟨h1, rfl⟩ := if_some e
    obtain ⟨a, rfl, hb, rfl⟩ := rp.listInts e1
    exact ⟨a, ns, rfl, SqL.of (R1.sub _ _ hb), h1, q2 _ H1 B1 .refl (.int _)⟩
end
end DL

set_option Elab.async false
set_option linter.all false
set_option maxRecDepth 100000
set_option maxHeartbeats 4000000
/-! DL13: the words in which a text's derivation is printed. -/
namespace DL
open PySem PySem.Spec L2 StX
open PyProof.Rows hiding St

abbrev cx (X : Cx) (s : Option StC) (E : St → XK) : Ctx := ⟨X.K, X.mg, s, E⟩
section
variable {X : Cx} {s : Option StC} {E : St → XK}
variable {a b c e : Expr} {es : List Expr} {f k l : M D} {ft kt : M Bool} {fa : M (List D)} {pos p p1 p2 apos : Pos}
theorem gv (i : Nat) {x : Str} (hN : X.N[i]? = some x := by rfl) (hv : Vis X.env.scope x := by first | exact Or.inl rfl | exact Or.inr (Or.inl rfl) | exact Or.inr (Or.inr rfl)) (hd : (x == ("__debug__" : Str)) = false := by decide)
    (hcd : (x == ("__classdict__" : Str)) = false := by decide) : DE (cx X s E) X (.Name x pos) (getM i) := dE (pe_var hN hv hd hcd) sat_var
theorem gint {i : Int} {j} : DE (cx X s E) X (.Constant (.int i) j pos) (pureM (.int i)) := dE pe_int sat_int
theorem gstr {i : Str} {j} : DE (cx X s E) X (.Constant (.str i) j pos) (pureM (.str i)) := dE pe_str sat_str
theorem gbl {i : Bool} {j} : DE (cx X s E) X (.Constant (.bool i) j pos) (pureM (.bool i)) := dE pe_bl sat_bl
theorem gnon {j} : DE (cx X s E) X (.Constant .none j pos) (pureM .none) := dE pe_non sat_non
theorem gglob {x : Str} {v : V} {d : D} {u : Value} (hm : X.mg x = some u) (r : RelV v u) (h : ∀ B, Rp X.K B v d) (hg : Gl X x := by rfl) (hd : (x == ("__debug__" : Str)) = false := by decide) : DE (cx X s E) X (.Name x pos) (pureM d) := dE (pe_glob hg hm r hd) (sat_const h)
/-! operators -/
theorem gadd (ha : DE (cx X s E) X a f) (hb : DE (cx X s E) X b k) : DE (cx X s E) X (.BinOp a .Add b pos) (op2 addD f k) := dE (pe_op op_addX ha hb) (sat_op (C := cx X s E) v2_add sE sE)
theorem gsub (ha : DE (cx X s E) X a f) (hb : DE (cx X s E) X b k) : DE (cx X s E) X (.BinOp a .Sub b pos) (op2 subD f k) := dE (pe_op op_sub ha hb) (sat_op v2_sub sE sE)
theorem gmul (ha : DE (cx X s E) X a f) (hb : DE (cx X s E) X b k) : DE (cx X s E) X (.BinOp a .Mult b pos) (op2 mulXD f k) := dE (pe_op op_mulX ha hb) (sat_op v2_mulX sE sE)
theorem gfdiv (ha : DE (cx X s E) X a f) (hb : DE (cx X s E) X b k) : DE (cx X s E) X (.BinOp a .FloorDiv b pos) (op2 fdivD f k) := dE (pe_op op_fdivN ha hb) (sat_op v2_fdiv sE sE)
theorem gmod (ha : DE (cx X s E) X a f) (hb : DE (cx X s E) X b k) : DE (cx X s E) X (.BinOp a .Mod b pos) (op2 modD f k) := dE (pe_op op_modN ha hb) (sat_op v2_mod sE sE)
theorem gpow (ha : DE (cx X s E) X a f) (hb : DE (cx X s E) X b k) : DE (cx X s E) X (.BinOp a .Pow b pos) (op2 powD f k) := dE (pe_op op_pow ha hb) (sat_op v2_pow sE sE)
theorem gshl (ha : DE (cx X s E) X a f) (hb : DE (cx X s E) X b k) : DE (cx X s E) X (.BinOp a .LShift b pos) (op2 shlD f k) := dE (pe_op op_shl ha hb) (sat_op v2_shl sE sE)
theorem gshr (ha : DE (cx X s E) X a f) (hb : DE (cx X s E) X b k) : DE (cx X s E) X (.BinOp a .RShift b pos) (op2 shrD f k) := dE (pe_op op_shr ha hb) (sat_op v2_shr sE sE)
theorem gband (ha : DE (cx X s E) X a f) (hb : DE (cx X s E) X b k) : DE (cx X s E) X (.BinOp a .BitAnd b pos) (op2 bandD f k) := dE (pe_op op_and ha hb) (sat_op v2_and sE sE)
def negD (d : D) : Option D := match d with
  | .int i => some (.int (-i))
  | _ => none
theorem v1_neg {C : Ctx} : V1 C (rU fun i => .int (-i)) negD := by
  intro H B x dx d Q L r e q
  cases r with
  | int i => cases e; exact ⟨i, rfl, q _ H B .refl (.int _)⟩
  | _ => cases e
theorem gneg (ha : DE (cx X s E) X a f) : DE (cx X s E) X (.UnaryOp .USub a pos) (op1 negD f) := dE (pe_un un_neg ha) (sat_un v1_neg sE)
/-- a comparison, by its values -/
theorem gcmp {op : CmpOp} {r : R2} {h : D → D → Option D} (ho : OpR X (compareOp op) r) (hr : V2 (cx X s E) r h) (ha : DE (cx X s E) X a f) (hb : DE (cx X s E) X b k) (hm : behindInMarks op b = false := by first | exact nomark _ | with_unfolding_all rfl) : DE (cx X s E) X (.Compare a [op] [b] pos) (op2 h f k) := dE (pe_cmpR ho ha hb hm) (sat_op hr sE sE)
theorem gchain {op op' : CmpOp} {r r' : R2} {h h' : D → D → Option D} (ho : OpR X (compareOp op) r) (hr : V2 (cx X s E) r h) (ho' : OpR X (compareOp op') r') (hr' : V2 (cx X s E) r' h') (ha : DE (cx X s E) X a f) (hb : DE (cx X s E) X b k) (hc : DE (cx X s E) X c l)
    (hm : lastMarks [op, op'] [b, c] = false := by rfl) : DE (cx X s E) X (.Compare a [op, op'] [b, c] pos) (chainM h h' f k l) := dE (pe_chain ho ho' ha hb hc hm) (sat_chain hr hr' sE sE sE)
theorem gdin (hu : X.A.units + 65 < cLine) (ha : DE (cx X s E) X a f) (hb : DE (cx X s E) X b k) (hm : behindInMarks .In b = false := by rfl) : DE (cx X s E) X (.Compare a [.In] [b] pos) (op2 (dinD false) f k) := dE (pe_cmp (pc_din (by omega) ha hb) hm) (sat_din sE sE)
theorem gdnotin (hu : X.A.units + 65 < cLine) (ha : DE (cx X s E) X a f) (hb : DE (cx X s E) X b k) (hm : behindInMarks .NotIn b = false := by rfl) : DE (cx X s E) X (.Compare a [.NotIn] [b] pos) (op2 (dinD true) f k) := dE (pe_cmp (pc_dnotin (by omega) ha hb) hm) (sat_dnotin sE sE)
theorem gdinV (hu : X.A.units + 65 < cLine) (i : Nat) {x : Str} {px : Pos} (ha : DE (cx X s E) X a f) (hv : PE X (.Name x px) (tVar i) := by exact pv _) (hm : behindInMarks .In (.Name x px) = false := by rfl) : DE (cx X s E) X (.Compare a [.In] [.Name x px] pos) (dinV false i f) := dE (pe_cmp (pc_din (by omega) ha hv) hm) (sat_dinV sE)
theorem gdnotinV (hu : X.A.units + 65 < cLine) (i : Nat) {x : Str} {px : Pos} (ha : DE (cx X s E) X a f) (hv : PE X (.Name x px) (tVar i) := by exact pv _) (hm : behindInMarks .NotIn (.Name x px) = false := by rfl) : DE (cx X s E) X (.Compare a [.NotIn] [.Name x px] pos) (dinV true i f) := dE (pe_cmp (pc_dnotin (by omega) ha hv) hm) (sat_dnotinV sE)
/-! bools, tests -/
theorem gand (ha : DE (cx X s E) X a f) {rest : List Expr} (hb : DE (cx X s E) X (.BoolOp .And (b :: rest) pos) k) : DE (cx X s E) X (.BoolOp .And (a :: b :: rest) pos) (andV f k) := dE (pe_and ha hb) (sat_andV sE sE)
theorem gor (ha : DE (cx X s E) X a f) {rest : List Expr} (hb : DE (cx X s E) X (.BoolOp .Or (b :: rest) pos) k) : DE (cx X s E) X (.BoolOp .Or (a :: b :: rest) pos) (orV f k) := dE (pe_or ha hb) (sat_orV sE sE)
theorem gone {op : BoolOp} (ha : DE (cx X s E) X a f) : DE (cx X s E) X (.BoolOp op [a] pos) f := pe_one ha
theorem gnot (ha : DE (cx X s E) X a f) : DE (cx X s E) X (.UnaryOp .Not a pos) (notV f) := dE (pe_not ha) (sat_notV sE)
theorem gif (hc : DT (cx X s E) X c ft) (ha : DE (cx X s E) X a f) (hb : DE (cx X s E) X b k) : DE (cx X s E) X (.IfExp c a b pos) (ifM ft f k) := dE (pe_ifExp hc ha hb) (sat_if sT sE sE)
theorem tval (ha : DE (cx X s E) X a f) (he : ∀ whole, isTrue a X.env whole = (do let v ← whole; standAt a.pos; holding [v] (truthy v)) := by intro _; rfl) : DT (cx X s E) X a (asB f) := dT' (pt_val ha he) (satT_b sE)
theorem tcmp {op : CmpOp} {r : R2} {h : D → D → Option D} (ho : OpR X (compareOp op) r) (hr : V2 (cx X s E) r h) (ha : DE (cx X s E) X a f) (hb : DE (cx X s E) X b k) (hm : behindInMarks op b = false := by first | exact nomark _ | with_unfolding_all rfl) : DT (cx X s E) X (.Compare a [op] [b] pos) (asB (op2 h f k)) := dT' (pt_cmpR ho ha hb hm) (satT_t (sat_op hr sE sE))
theorem tchain {op op' : CmpOp} {r r' : R2} {h h' : D → D → Option D} (ho : OpR X (compareOp op) r) (hr : V2 (cx X s E) r h) (ho' : OpR X (compareOp op') r') (hr' : V2 (cx X s E) r' h') (ha : DE (cx X s E) X a f) (hb : DE (cx X s E) X b k) (hc : DE (cx X s E) X c l)
    (hm : lastMarks [op, op'] [b, c] = false := by rfl) : DT (cx X s E) X (.Compare a [op, op'] [b, c] pos) (asB (chainM h h' f k l)) := dT' (pt_chain ho ho' ha hb hc hm) (satT_t (sat_chain hr hr' sE sE sE))
theorem tdin (hu : X.A.units + 65 < cLine) (ha : DE (cx X s E) X a f) (hb : DE (cx X s E) X b k) (hm : behindInMarks .In b = false := by rfl) : DT (cx X s E) X (.Compare a [.In] [b] pos) (asB (op2 (dinD false) f k)) := dT' (pt_cmp (pc_din (by omega) ha hb) hm) (satT_b (sat_din sE sE))
theorem tdnotin (hu : X.A.units + 65 < cLine) (ha : DE (cx X s E) X a f) (hb : DE (cx X s E) X b k) (hm : behindInMarks .NotIn b = false := by rfl) : DT (cx X s E) X (.Compare a [.NotIn] [b] pos) (asB (op2 (dinD true) f k)) := dT' (pt_cmp (pc_dnotin (by omega) ha hb) hm) (satT_b (sat_dnotin sE sE))
theorem tnot (ha : DT (cx X s E) X a ft) : DT (cx X s E) X (.UnaryOp .Not a pos) (notM ft) := dT' (pt_not ha) (satT_not sT)
abbrev DW (C : Ctx) (X : Cx) (e : Expr) (f : M Bool) : Prop := PW X e (toT C f)
theorem dW {C : Ctx} {X : Cx} {e : Expr} {t : TT} {f : M Bool} (h : PW X e t) (s : SatT C t f) : DW C X e f := ⟨fun w pins s0 σ H Q I ⟨N, B, g, R, q⟩ => h.run w pins s0 σ H Q I (s N σ H B g Q R q)⟩
theorem wand1 (ha : DT (cx X s E) X a ft) : DW (cx X s E) X (.BoolOp .And [a] pos) ft := pw_and1 ha
theorem wor1 (ha : DT (cx X s E) X a ft) : DW (cx X s E) X (.BoolOp .Or [a] pos) ft := pw_or1 ha
theorem wand {rest : List Expr} (ha : DT (cx X s E) X a ft) (hb : DW (cx X s E) X (.BoolOp .And (b :: rest) pos) kt) : DW (cx X s E) X (.BoolOp .And (a :: b :: rest) pos) (andM ft kt) := dW (pw_and ha hb) (satT_and sT sT)
theorem wor {rest : List Expr} (ha : DT (cx X s E) X a ft) (hb : DW (cx X s E) X (.BoolOp .Or (b :: rest) pos) kt) : DW (cx X s E) X (.BoolOp .Or (a :: b :: rest) pos) (orM ft kt) := dW (pw_or ha hb) (satT_or sT sT)
theorem tw (h : DW (cx X s E) X a ft) : DT (cx X s E) X a ft := PW.pt h
def yesM : M Bool := pureM true
theorem sat_yes {C : Ctx} : SatT C tYes yesM := fun N σ H B g Q R q => q H B R (.refl _)
theorem tsnil : DTs (cx X s E) X [] yesM := dTs pts_nil sat_yes
theorem tsone (h : DT (cx X s E) X a ft) : DTs (cx X s E) X [a] ft := dTs (pts_one h) sT
/-! arguments, displays -/
theorem anil : DA (cx X s E) X [] (pureM []) := dA pa_nil satA_nil
theorem acons (ha : DE (cx X s E) X e f) (hr : DA (cx X s E) X es fa) (hs : starEach (e :: es) X.env = (false, eval e X.env) :: starEach es X.env := by rfl) : DA (cx X s E) X (e :: es) (consM f fa) := dA (pa_cons ha hr hs) (satA_cons sE sA)
theorem astar (ha : DE (cx X s E) X e f) (hr : DA (cx X s E) X es fa) (hs : starEach (.Starred e p :: es) X.env = (true, eval e X.env) :: starEach es X.env := by rfl) : DA (cx X s E) X (.Starred e p :: es) (starM f fa) := dA (pa_star ha hr hs) (satA_star sE sA)
theorem gtup {x1} (h : DA (cx X s E) X es fa) : DE (cx X s E) X (.Tuple es x1 pos) (tupM fa) := dE (pe_tup h) (sat_tup sA)
theorem flst (h : DA (cx X s E) X es fa) : DF (cx X s E) X (.List es pos) (guardL fa) := dF (pe_lst h) (satF_lst sA)
theorem glst (h : DA (cx X s E) X es fa) : DE (cx X s E) X (.List es pos) (lstM (guardL fa)) := dL (flst h)
theorem gF {fl : M (List D)} (h : DF (cx X s E) X e fl) : DE (cx X s E) X e (lstM fl) := dL h
theorem gD {fl : M (List (List Key × D))} (h : DDc (cx X s E) X e fl) : DE (cx X s E) X e (dctM fl) := dE h sD.sat
/-! subscripts, slices -/
theorem gix (ha : DE (cx X s E) X a f) (hb : DE (cx X s E) X b k) (hs : PlainIx b := by intro _ _; rfl) : DE (cx X s E) X (.Subscript a b pos) (op2 ixD f k) := dE (pe_ix ix_seq ha hb hs) (sat_op v2_ix sE sE)
theorem gixV (i : Nat) {x : Str} {px : Pos} (hb : DE (cx X s E) X b k) (hv : PE X (.Name x px) (tVar i) := by exact pv _) (hs : PlainIx b := by intro _ _; rfl) : DE (cx X s E) X (.Subscript (.Name x px) b pos) (ixV i k) := dE (pe_ix ix_seq hv hb hs) (sat_ixV sE)
theorem gdget (hu : X.A.units + 65 < cLine) (ha : DE (cx X s E) X a f) (hb : DE (cx X s E) X b k) (hs : NoSl b := by intro _ _; rfl) : DE (cx X s E) X (.Subscript a b pos) (op2 dgetD f k) := dE (pe_dget (by omega) ha hb hs) (sat_dget sE sE)
theorem gdgetV (hu : X.A.units + 65 < cLine) (i : Nat) {x : Str} {px : Pos} (hb : DE (cx X s E) X b k) (hv : PE X (.Name x px) (tVar i) := by exact pv _) (hs : NoSl b := by intro _ _; rfl) : DE (cx X s E) X (.Subscript (.Name x px) b pos) (dgetV i k) := dE (pe_dget (by omega) hv hb hs) (sat_dgetV sE)
theorem gget2V (hu : X.A.units + 65 < cLine) (i : Nat) {x : Str} {px : Pos} (hb : DE (cx X s E) X b k) (hc : DE (cx X s E) X c l) (m : M2 X (.Name x px) "get" apos b c pos) (hv : PE X (.Name x px) (tVar i) := by exact pv _) : DE (cx X s E) X (.Call (.Attribute (.Name x px) "get" apos) [b, c] [] pos) (dget2V i k l) := dE (pe_dget2 (by omega) hv hb hc m) (sat_dget2V sE sE)
abbrev DO (C : Ctx) (X : Cx) (e : Option Expr) (f : M (Option Int)) : Prop := PO X e (fun σ H Q => ∃ N B g, Rep C N σ H B g ∧ FinO C N σ B (f g) Q)
theorem dO {C : Ctx} {e : Option Expr} {t : TO} {f : M (Option Int)} (h : PO X e t) (s : SatO C t f) : DO C X e f := ⟨fun pins s0 σ H Q I ⟨N, B, g, R, q⟩ => h.run pins s0 σ H Q I (s N σ H B g Q R q)⟩
theorem ono : DO (cx X s E) X none (pureM none) := dO po_none satO_no
theorem osome (h : DE (cx X s E) X e f) : DO (cx X s E) X (some e) (partM f) := dO (po_some h) (satO_part sE)
theorem gslice {lo hi : Option Expr} {fl fh : M (Option Int)} (ha : DE (cx X s E) X a f) (hl : DO (cx X s E) X lo fl) (hh : DO (cx X s E) X hi fh) : DE (cx X s E) X (.Subscript a (.Slice lo hi none p2) pos) (sliceM f fl fh) :=
  dE (pe_slice sl_seqX ha hl hh) (sat_slice sE (fun N σ H B g Q R q => ⟨N, B, g, R, q⟩) (fun N σ H B g Q R q => ⟨N, B, g, R, q⟩))
theorem grev {k0 : Nat} {q1 q2 q3 : Pos} (ha : DE (cx X s E) X a f) : DE (cx X s E) X (.Subscript a (.Slice none none (some (.UnaryOp .USub (.Constant (.int 1) k0 q1) q2)) q3) pos) (op1 revD f) := dE (pe_revL ha) (sat_rev sE)
/-! built-in functions -/
theorem gcb {x : Str} {id : String} {r : List V → Hp → VK → Prop} {h : List D → Option D} (hc : CallR X (.builtin id) r) (hr : VN (cx X s E) r h) (hv : bootBuiltins x = some (.builtin id)) (hm : X.mg x = none) (ha : DA (cx X s E) X (e :: es) fa) (hg : Gl X x := by rfl) (hn : x ≠ "__name__" := by decide) (hdb : (x == ("__debug__" : Str)) = false := by decide)
    (he : starEach (e :: es) X.env = (false, eval e X.env) :: starEach es X.env := by rfl) (hpl : (backTo pos (starEach es X.env)).any (·.1) = false := by rfl) : DE (cx X s E) X (.Call (.Name x p) (e :: es) [] pos) (opN h fa) := dE (pe_callB hc hg hm hv ha hn hdb he hpl) (sat_cb hr sA)
theorem gct {x : Str} {id : String} {r : List V → Hp → VK → Prop} {h : List D → Option D} (hc : CallR X (.type id) r) (hr : VN (cx X s E) r h) (hv : bootBuiltins x = some (.type id)) (hm : X.mg x = none) (ha : DA (cx X s E) X (e :: es) fa) (hg : Gl X x := by rfl) (hn : x ≠ "__name__" := by decide) (hdb : (x == ("__debug__" : Str)) = false := by decide)
    (he : starEach (e :: es) X.env = (false, eval e X.env) :: starEach es X.env := by rfl) (hpl : (backTo pos (starEach es X.env)).any (·.1) = false := by rfl) : DE (cx X s E) X (.Call (.Name x p) (e :: es) [] pos) (opN h fa) := dE (pe_callTy hc hg hm hv ha hn hdb he hpl) (sat_cb hr sA)
theorem flistOf (hm : X.mg "list" = none) (ha : DA (cx X s E) X [e] fa) (hg : Gl X "list" := by rfl) (he : starEach [e] X.env = [(false, eval e X.env)] := by rfl) (hpl : (backTo pos (starEach [] X.env)).any (·.1) = false := by rfl) : DF (cx X s E) X (.Call (.Name "list" p) [e] [] pos) (listOfM fa) := dF (pe_callTy call_list_of hg hm PyProof.Rows.boot_list ha (by decide) (by decide) he hpl) (satF_listOf sA)
theorem glenV (i : Nat) {x : Str} {px : Pos} (hm : X.mg "len" = none) (hv : PE X (.Name x px) (tVar i) := by exact pv _) (hg : Gl X "len" := by rfl) (he : starEach [.Name x px] X.env = [(false, eval (.Name x px) X.env)] := by rfl) (hpl : (backTo pos (starEach [] X.env)).any (·.1) = false := by rfl) :
    DE (cx X s E) X (.Call (.Name "len" p) [.Name x px] [] pos) (lenV i) := dE (pe_callB call_len hg hm PySem.boot_len (pa_cons hv pa_nil he) (by decide) (by decide) he hpl) sat_lenV
theorem glenSet (hc : X.calm = true) (hm : X.mg "len" = none) (hm2 : X.mg "set" = none) (ha : DE (cx X s E) X a f) (hg : Gl X "len" := by rfl) (hg2 : Gl X "set" := by rfl) (na : starEach [a] X.env = (false, eval a X.env) :: starEach [] X.env := by rfl) : DE (cx X s E) X (.Call (.Name "len" p) [.Call (.Name "set" p1) [a] [] p2] [] pos) (op1 lenSetD f) := dE (pe_lenSet2 hc hg hm hg2 hm2 ha na) (sat_lenSet sE)
end
end DL

set_option Elab.async false
set_option linter.all false
set_option maxRecDepth 100000
set_option maxHeartbeats 4000000
/-! DL14: the words for walks, comprehensions, statements, calls, raise, try. -/
namespace DL
open PySem PySem.Spec L2 StX
open PyProof.Rows hiding St

theorem passN {X : Cx} : Passes (L2N.CX X.prog X.w) X L2.E0 := fun _ _ _ _ _ _ _ h => by
  obtain ⟨_, _, _, _, _, _, _, _, _, _, _, _, z⟩ := h
  exact z.elim
theorem exq {X : Cx} : ∀ σ, PassesAt (L2N.CX X.prog X.w) X σ ((fun _ => L2.E0 : St → XK) σ) := fun σ pins H s e s' I c => passN pins σ H s e s' I c
section
variable {X : Cx} {s : Option StC} {E : St → XK}
variable {a b c e : Expr} {es : List Expr} {f k l : M D} {ft kt : M Bool} {fa : M (List D)} {pos p p1 p2 apos : Pos}
/-! ### what is walked over -/
theorem ilist {tg : Expr} (h : DE (cx X s E) X e f) : DI (cx X s E) X tg e (srcM f) := dI (pi_any h) (satI_any sE)
theorem irng1 {tg : Expr} (hm : X.mg "range" = none) (ha : DA (cx X s E) X [a] fa) (hg : Gl X "range" := by rfl) (hs : starEach [a] X.env = [(false, eval a X.env)] := by rfl) : DI (cx X s E) X tg (.Call (.Name "range" p) [a] [] pos) (srcA rng1 fa) := dI (pi_range1 hg hm ha hs) (satI_rng1 sA)
theorem irng2 {tg : Expr} (hm : X.mg "range" = none) (ha : DA (cx X s E) X [a, b] fa) (hg : Gl X "range" := by rfl) (hs : starEach [a, b] X.env = [(false, eval a X.env), (false, eval b X.env)] := by rfl) (hs2 : starEach [b] X.env = [(false, eval b X.env)] := by rfl) :
    DI (cx X s E) X tg (.Call (.Name "range" p) [a, b] [] pos) (srcA rng2 fa) := dI (pi_range2 hg hm ha hs hs2) (satI_rng2 sA)
theorem ienum {elts : List Expr} {kk : Nat} {tpos : Pos} (hm : X.mg "enumerate" = none) (ha : DA (cx X s E) X [e] fa) (hg : Gl X "enumerate" := by rfl) (hs : starEach [e] X.env = [(false, eval e X.env)] := by rfl) : DI (cx X s E) X (.Tuple elts kk tpos) (.Call (.Name "enumerate" p) [e] [] pos) (srcA enumD fa) := dI (pi_enumX hg hm ha hs) (satI_enum sA)
theorem izip {elts : List Expr} {kk : Nat} {tpos : Pos} (hm : X.mg "zip" = none) (ha : DA (cx X s E) X [a, b] fa) (hg : Gl X "zip" := by rfl) (hs : starEach [a, b] X.env = (false, eval a X.env) :: starEach [b] X.env := by rfl) (hpl : (backTo pos (starEach [b] X.env)).any (·.1) = false := by rfl) : DI (cx X s E) X (.Tuple elts kk tpos) (.Call (.Name "zip" p) [a, b] [] pos) (srcA zipD fa) := dI (pi_zipX hg hm ha (hs := hs) (hpl := hpl)) (satI_zip sA)
/-! ### targets -/
theorem hname (i : Nat) {x : Str} (hN : X.N.Nodup) (hi : X.N[i]? = some x := by rfl) (hx : Loc X.env.scope x := by first | exact Or.inl rfl | exact Or.inr rfl) (hf : X.fn x = true ∨ X.env.scope.names.lookup x = some .local := by first | exact .inl rfl | exact .inr rfl) : DG (cx X s E) X (.Name x pos) [i] (putM i) := dG (pg_name hN hi hx hf) satG_name
abbrev DGs (C : Ctx) (X : Cx) (es : List Expr) (ts : List Nat) (k : List D → M Unit) : Prop := PGs X es (fun vs σ H Q => ∃ N B g ds, Rep C N σ H B g ∧ Rps C.K B vs ds ∧ FinG C N ts σ B (k ds g) Q)
theorem dGs {C : Ctx} {es : List Expr} {ts : List Nat} {t : TGs} {k : List D → M Unit} (h : PGs X es t) (s : SatGs C ts t k) : DGs C X es ts k := ⟨fun pins s0 σ H xs us Q I r ⟨N, B, g, ds, R, rp, q⟩ => h.run pins s0 σ H xs us Q I r (s N xs σ H B g ds Q R rp q)⟩
theorem sGs {C : Ctx} {ts : List Nat} {k : List D → M Unit} : SatGs C ts (fun vs σ H Q => ∃ N B g ds, Rep C N σ H B g ∧ Rps C.K B vs ds ∧ FinG C N ts σ B (k ds g) Q) k := fun N vs σ H B g ds Q R r q => ⟨N, B, g, ds, R, r, q⟩
theorem hnil : DGs (cx X s E) X [] [] gNilM := dGs pgs_nil satGs_nil
theorem hcons {ts us : List Nat} {k1 : D → M Unit} {r1 : List D → M Unit} (h1 : DG (cx X s E) X e ts k1) (h2 : DGs (cx X s E) X es us r1) (hs : (assignEach (e :: es) X.env).map (·.2) = assign e X.env :: (assignEach es X.env).map (·.2) := by rfl) : DGs (cx X s E) X (e :: es) (ts ++ us) (gConsM k1 r1) := dGs (pgs_cons h1 h2 hs) (satGs_cons sG sGs)
theorem htup (n : Nat) {kk : Nat} {ts : List Nat} {r1 : List D → M Unit} (hc : X.calm = true) (h : DGs (cx X s E) X es ts r1) (hn : (assignEach es X.env).length = n := by rfl) (hst : (assignEach es X.env).findIdx? (·.1) = none := by rfl) : DG (cx X s E) X (.Tuple es kk pos) ts (tupG n r1) := dG (pg_tup hc h hn hst) (satG_tup sGs)
/-! ### comprehensions -/
theorem flc {elt tg iter : Expr} {ifs : List Expr} {scope : Scope} {ts : List Nat} {src : M (List D)} {kk : D → M Unit} {cc : M Bool} {ee : M D} (own : List (Str × Nat)) (hc : X.calm = true) (hN : X.N.Nodup) (ok : BlkOk X.N X.env.scope scope own) (hi : DI (cx X s E) X tg iter src)
    (hg : ∀ (s0 : Shared) (H : Hp) (C : Addr) (cl : List (Str × Addr)) (fp : List Addr), DG (cx X s fun _ => L2.E0) (X.blk s0 H scope (compEnvC scope cl C X.env) fp) tg ts kk) (ht : ∀ (s0 : Shared) (H : Hp) (C : Addr) (cl : List (Str × Addr)) (fp : List Addr), DTs (cx X s fun _ => L2.E0) (X.blk s0 H scope (compEnvC scope cl C X.env) fp) ifs cc)
    (he : ∀ (s0 : Shared) (H : Hp) (C : Addr) (cl : List (Str × Addr)) (fp : List Addr), DE (cx X s fun _ => L2.E0) (X.blk s0 H scope (compEnvC scope cl C X.env) fp) elt ee) (hv : ∀ j, j ∈ ts → j ∈ own.map (·.2) := by decide) (hs : ∀ x, foldedSetIterable iter X.env x = pure x := by intro _; rfl) :
    DF (cx X s E) X (.ListComp elt [⟨tg, iter, ifs, 0⟩] scope pos) (lcM src kk cc ee (own.map (·.2))) := dF (pe_lc hc hN hi ok hg ht he hs) (satF_lc (C := cx X s E) sI sG sT sE hv)
theorem flc2 {elt tg iter tg1 iter1 : Expr} {ifs ifs1 : List Expr} {scope : Scope} {ts ts1 : List Nat} {src src1 : M (List D)} {kk kk1 : D → M Unit} {cc cc1 : M Bool} {ee : M D} (own : List (Str × Nat)) (vs1 : List Nat) (hc : X.calm = true) (hN : X.N.Nodup) (ok : BlkOk X.N X.env.scope scope own) (hi : DI (cx X s E) X tg iter src)
    (hg : ∀ (s0 : Shared) (H : Hp) (C : Addr) (cl : List (Str × Addr)) (fp : List Addr), DG (cx X s fun _ => L2.E0) (X.blk s0 H scope (compEnvC scope cl C X.env) fp) tg ts kk) (ht : ∀ (s0 : Shared) (H : Hp) (C : Addr) (cl : List (Str × Addr)) (fp : List Addr), DTs (cx X s fun _ => L2.E0) (X.blk s0 H scope (compEnvC scope cl C X.env) fp) ifs cc)
    (hi1 : ∀ (s0 : Shared) (H : Hp) (C : Addr) (cl : List (Str × Addr)) (fp : List Addr), DI (cx X s fun _ => L2.E0) (X.blk s0 H scope (compEnvC scope cl C X.env) fp) tg1 iter1 src1)
    (hg1 : ∀ (s0 : Shared) (H : Hp) (C : Addr) (cl : List (Str × Addr)) (fp : List Addr), DG (cx X s fun _ => L2.E0) (X.blk s0 H scope (compEnvC scope cl C X.env) fp) tg1 ts1 kk1) (ht1 : ∀ (s0 : Shared) (H : Hp) (C : Addr) (cl : List (Str × Addr)) (fp : List Addr), DTs (cx X s fun _ => L2.E0) (X.blk s0 H scope (compEnvC scope cl C X.env) fp) ifs1 cc1)
    (he : ∀ (s0 : Shared) (H : Hp) (C : Addr) (cl : List (Str × Addr)) (fp : List Addr), DE (cx X s fun _ => L2.E0) (X.blk s0 H scope (compEnvC scope cl C X.env) fp) elt ee) (hv : ∀ j, j ∈ ts → j ∈ own.map (·.2) := by decide) (hv1 : ∀ j, j ∈ ts1 → j ∈ vs1 := by decide) (hvv : ∀ j, j ∈ vs1 → j ∈ own.map (·.2) := by decide)
    (hs : ∀ x, foldedSetIterable iter X.env x = pure x := by intro _; rfl) (hs1 : ∀ env x, foldedSetIterable iter1 env x = pure x := by intro _ _; rfl) :
    DF (cx X s E) X (.ListComp elt [⟨tg, iter, ifs, 0⟩, ⟨tg1, iter1, ifs1, 0⟩] scope pos) (lc2M src kk cc src1 kk1 cc1 ee (own.map (·.2)) vs1) := dF (pe_lc2 hc hN hi ok hvv hg ht hi1 hg1 ht1 he hs hs1) (satF_lc2 (C := cx X s E) sI sG sT sI sG sT sE hv hv1 hvv)
/-- name = [..]; the place is told as data, or as a list of its own -/
inductive LcSet (C : Ctx) (i : Nat) (f : M (List D)) : M Fl → Prop
  | dat : LcSet C i f (asgM (lstM f) (putM i))
  | own : LcSet C i f (asgF f i)
theorem LcSet.sat {C : Ctx} {i : Nat} {f : M (List D)} {m : M Fl} {t : TE} (h : LcSet C i f m) (ht : SatF C t f) : SatS C (tAsg t (gName i)) m := by
  cases h with
  | dat => exact satS_asg ht.sat satG_name
  | own => exact satS_asgF ht
theorem slc (i : Nat) {y : Str} {py spos : Pos} {elt tg iter : Expr} {ifs : List Expr} {scope : Scope} {ts : List Nat} {src : M (List D)} {kk : D → M Unit} {cc : M Bool} {ee : M D} {m : M Fl} (own : List (Str × Nat)) (hm : LcSet (cx X s E) i (lcM src kk cc ee (own.map (·.2))) m) (hc : X.calm = true) (hN : X.N.Nodup) (ok : BlkOk X.N X.env.scope scope own) (hsw : swapsWith (.ListComp elt [⟨tg, iter, ifs, 0⟩] scope pos) (some (.Name y py)) spos.line X.env = pure true) (hi : DI (cx X s E) X tg iter src)
    (hg : ∀ (s0 : Shared) (H : Hp) (C : Addr) (cl : List (Str × Addr)) (fp : List Addr), DG (cx X s fun _ => L2.E0) (X.blk s0 H scope (compEnvC scope cl C X.env) fp) tg ts kk) (ht : ∀ (s0 : Shared) (H : Hp) (C : Addr) (cl : List (Str × Addr)) (fp : List Addr), DTs (cx X s fun _ => L2.E0) (X.blk s0 H scope (compEnvC scope cl C X.env) fp) ifs cc)
    (he : ∀ (s0 : Shared) (H : Hp) (C : Addr) (cl : List (Str × Addr)) (fp : List Addr), DE (cx X s fun _ => L2.E0) (X.blk s0 H scope (compEnvC scope cl C X.env) fp) elt ee) (hv : ∀ j, j ∈ ts → j ∈ own.map (·.2) := by decide) (hy : X.N[i]? = some y := by rfl) (hyl : X.env.scope.names.lookup y = some .local := by rfl) (hs : ∀ x, foldedSetIterable iter X.env x = pure x := by intro _; rfl) :
    DS (cx X s E) X (.Assign [.Name y py] (.ListComp elt [⟨tg, iter, ifs, 0⟩] scope pos) spos) m := dS (ps_setLc hc hN hy hyl hsw hi ok hg ht he hs) (hm.sat (satF_lc (C := cx X s E) sI sG sT sE hv))
theorem slc2 (i : Nat) {y : Str} {py spos : Pos} {elt tg iter tg1 iter1 : Expr} {ifs ifs1 : List Expr} {scope : Scope} {ts ts1 : List Nat} {src src1 : M (List D)} {kk kk1 : D → M Unit} {cc cc1 : M Bool} {ee : M D} {m : M Fl} (own : List (Str × Nat)) (vs1 : List Nat) (hm : LcSet (cx X s E) i (lc2M src kk cc src1 kk1 cc1 ee (own.map (·.2)) vs1) m) (hc : X.calm = true) (hN : X.N.Nodup) (ok : BlkOk X.N X.env.scope scope own)
    (hsw : swapsWith (.ListComp elt [⟨tg, iter, ifs, 0⟩, ⟨tg1, iter1, ifs1, 0⟩] scope pos) (some (.Name y py)) spos.line X.env = pure true) (hi : DI (cx X s E) X tg iter src)
    (hg : ∀ (s0 : Shared) (H : Hp) (C : Addr) (cl : List (Str × Addr)) (fp : List Addr), DG (cx X s fun _ => L2.E0) (X.blk s0 H scope (compEnvC scope cl C X.env) fp) tg ts kk) (ht : ∀ (s0 : Shared) (H : Hp) (C : Addr) (cl : List (Str × Addr)) (fp : List Addr), DTs (cx X s fun _ => L2.E0) (X.blk s0 H scope (compEnvC scope cl C X.env) fp) ifs cc)
    (hi1 : ∀ (s0 : Shared) (H : Hp) (C : Addr) (cl : List (Str × Addr)) (fp : List Addr), DI (cx X s fun _ => L2.E0) (X.blk s0 H scope (compEnvC scope cl C X.env) fp) tg1 iter1 src1)
    (hg1 : ∀ (s0 : Shared) (H : Hp) (C : Addr) (cl : List (Str × Addr)) (fp : List Addr), DG (cx X s fun _ => L2.E0) (X.blk s0 H scope (compEnvC scope cl C X.env) fp) tg1 ts1 kk1) (ht1 : ∀ (s0 : Shared) (H : Hp) (C : Addr) (cl : List (Str × Addr)) (fp : List Addr), DTs (cx X s fun _ => L2.E0) (X.blk s0 H scope (compEnvC scope cl C X.env) fp) ifs1 cc1)
    (he : ∀ (s0 : Shared) (H : Hp) (C : Addr) (cl : List (Str × Addr)) (fp : List Addr), DE (cx X s fun _ => L2.E0) (X.blk s0 H scope (compEnvC scope cl C X.env) fp) elt ee) (hv : ∀ j, j ∈ ts → j ∈ own.map (·.2) := by decide) (hv1 : ∀ j, j ∈ ts1 → j ∈ vs1 := by decide) (hvv : ∀ j, j ∈ vs1 → j ∈ own.map (·.2) := by decide)
    (hy : X.N[i]? = some y := by rfl) (hyl : X.env.scope.names.lookup y = some .local := by rfl) (hs : ∀ x, foldedSetIterable iter X.env x = pure x := by intro _; rfl) (hs1 : ∀ env x, foldedSetIterable iter1 env x = pure x := by intro _ _; rfl) :
    DS (cx X s E) X (.Assign [.Name y py] (.ListComp elt [⟨tg, iter, ifs, 0⟩, ⟨tg1, iter1, ifs1, 0⟩] scope pos) spos) m := dS (ps_setLc2 hc hN hy hyl hsw hi ok hvv hg ht hi1 hg1 ht1 he hs hs1) (hm.sat (satF_lc2 (C := cx X s E) sI sG sT sI sG sT sE hv hv1 hvv))
/-! dicts with tuple keys -/
theorem ddnew : DDc (cx X s E) X (.Dict [] [] pos) (pureM []) := dD pe_dnewT satD_new
theorem ddc {kx vx tg iter : Expr} {ifs : List Expr} {scope : Scope} {ts : List Nat} {src : M (List D)} {kk : D → M Unit} {cc : M Bool} {ek ev : M D} (own : List (Str × Nat)) (hu : X.A.units + 65 < cLine) (hc : X.calm = true) (hN : X.N.Nodup) (ok : BlkOk X.N X.env.scope scope own) (hi : DI (cx X s E) X tg iter src)
    (hg : ∀ (s0 : Shared) (H : Hp) (C : Addr) (cl : List (Str × Addr)) (fp : List Addr), DG (cx X s fun _ => L2.E0) (X.blk s0 H scope (compEnvC scope cl C X.env) fp) tg ts kk) (ht : ∀ (s0 : Shared) (H : Hp) (C : Addr) (cl : List (Str × Addr)) (fp : List Addr), DTs (cx X s fun _ => L2.E0) (X.blk s0 H scope (compEnvC scope cl C X.env) fp) ifs cc)
    (hk : ∀ (s0 : Shared) (H : Hp) (C : Addr) (cl : List (Str × Addr)) (fp : List Addr), DE (cx X s fun _ => L2.E0) (X.blk s0 H scope (compEnvC scope cl C X.env) fp) kx ek)
    (he : ∀ (s0 : Shared) (H : Hp) (C : Addr) (cl : List (Str × Addr)) (fp : List Addr), DE (cx X s fun _ => L2.E0) (X.blk s0 H scope (compEnvC scope cl C X.env) fp) vx ev) (hv : ∀ j, j ∈ ts → j ∈ own.map (·.2) := by decide) (hs : ∀ x, foldedSetIterable iter X.env x = pure x := by intro _; rfl) :
    DDc (cx X s E) X (.DictComp kx vx [⟨tg, iter, ifs, 0⟩] scope pos) (dcM src kk cc ek ev (own.map (·.2))) := dD (pe_dcT (by omega) hc hN hi ok hg ht hk he hs) (satD_dc (C := cx X s E) sI sG sT sE sE hv)
theorem sdc (i : Nat) {y : Str} {py spos : Pos} {kx vx tg iter : Expr} {ifs : List Expr} {scope : Scope} {ts : List Nat} {src : M (List D)} {kk : D → M Unit} {cc : M Bool} {ek ev : M D} (own : List (Str × Nat)) (hu : X.A.units + 65 < cLine) (hc : X.calm = true) (hN : X.N.Nodup) (ok : BlkOk X.N X.env.scope scope own) (hsw : swapsWith (.DictComp kx vx [⟨tg, iter, ifs, 0⟩] scope pos) (some (.Name y py)) spos.line X.env = pure true) (hi : DI (cx X s E) X tg iter src)
    (hg : ∀ (s0 : Shared) (H : Hp) (C : Addr) (cl : List (Str × Addr)) (fp : List Addr), DG (cx X s fun _ => L2.E0) (X.blk s0 H scope (compEnvC scope cl C X.env) fp) tg ts kk) (ht : ∀ (s0 : Shared) (H : Hp) (C : Addr) (cl : List (Str × Addr)) (fp : List Addr), DTs (cx X s fun _ => L2.E0) (X.blk s0 H scope (compEnvC scope cl C X.env) fp) ifs cc)
    (hk : ∀ (s0 : Shared) (H : Hp) (C : Addr) (cl : List (Str × Addr)) (fp : List Addr), DE (cx X s fun _ => L2.E0) (X.blk s0 H scope (compEnvC scope cl C X.env) fp) kx ek)
    (he : ∀ (s0 : Shared) (H : Hp) (C : Addr) (cl : List (Str × Addr)) (fp : List Addr), DE (cx X s fun _ => L2.E0) (X.blk s0 H scope (compEnvC scope cl C X.env) fp) vx ev) (hv : ∀ j, j ∈ ts → j ∈ own.map (·.2) := by decide) (hy : X.N[i]? = some y := by rfl) (hyl : X.env.scope.names.lookup y = some .local := by rfl) (hs : ∀ x, foldedSetIterable iter X.env x = pure x := by intro _; rfl) :
    DS (cx X s E) X (.Assign [.Name y py] (.DictComp kx vx [⟨tg, iter, ifs, 0⟩] scope pos) spos) (asgD (dcM src kk cc ek ev (own.map (·.2))) i) := dS (ps_setDcT (by omega) hc hN hy hyl hsw hi ok hg ht hk he hs) (satS_asgD (satD_dc (C := cx X s E) sI sG sT sE sE hv))
theorem ddisp1 {kx vx : Expr} {fk fv : M D} (hu : X.A.units + 65 < cLine) (hk : DE (cx X s fun _ => L2.E0) X kx fk) (hv : DE (cx X s fun _ => L2.E0) X vx fv) : DDc (cx X s E) X (.Dict [some kx] [vx] pos) (disp1M fk fv) := dD (pe_disp1 (by omega) hk hv) (satD_disp1 (C := cx X s E) sE sE)
/-! ### statements -/
theorem ssnil : DSs (cx X s E) X [] nextM := dSs pss_nil satS_next
theorem sscons {st : Stmt} {rest : List Stmt} {m n : M Fl} (h : DS (cx X s E) X st m) (h2 : DSs (cx X s E) X rest n) : DSs (cx X s E) X (st :: rest) (seqM m n) := dSs (pss_cons h h2) (satS_seq sS sS)
theorem ssone {st : Stmt} {m : M Fl} (h : DS (cx X s E) X st m) : DSs (cx X s E) X [st] m := pss_one h
theorem sset (i : Nat) {x : Str} (hN : X.N.Nodup) (he : DE (cx X s E) X e f) (hi : X.N[i]? = some x := by rfl) (hx : Loc X.env.scope x := by first | exact Or.inl rfl | exact Or.inr rfl) (hs : swapsWith e (some (.Name x p1)) pos.line X.env = pure false := by rfl)
    (hf : X.fn x = true ∨ X.env.scope.names.lookup x = some .local := by first | exact .inl rfl | exact .inr rfl) : DS (cx X s E) X (.Assign [.Name x p1] e pos) (asgM f (putM i)) := dS (ps_set hN hi hx he hs hf) (satS_asg sE satG_name)
theorem ssetF (i : Nat) {x : Str} {fl : M (List D)} (hN : X.N.Nodup) (he : DF (cx X s E) X e fl) (hi : X.N[i]? = some x := by rfl) (hx : Loc X.env.scope x := by first | exact Or.inl rfl | exact Or.inr rfl) (hs : swapsWith e (some (.Name x p1)) pos.line X.env = pure false := by rfl)
    (hf : X.fn x = true ∨ X.env.scope.names.lookup x = some .local := by first | exact .inl rfl | exact .inr rfl) : DS (cx X s E) X (.Assign [.Name x p1] e pos) (asgF fl i) := dS (ps_set hN hi hx he hs hf) (satS_asgF sF)
theorem ssetD (i : Nat) {x : Str} {fl : M (List (List Key × D))} (hN : X.N.Nodup) (he : DDc (cx X s E) X e fl) (hi : X.N[i]? = some x := by rfl) (hx : Loc X.env.scope x := by first | exact Or.inl rfl | exact Or.inr rfl) (hs : swapsWith e (some (.Name x p1)) pos.line X.env = pure false := by rfl)
    (hf : X.fn x = true ∨ X.env.scope.names.lookup x = some .local := by first | exact .inl rfl | exact .inr rfl) : DS (cx X s E) X (.Assign [.Name x p1] e pos) (asgD fl i) := dS (ps_set hN hi hx he hs hf) (satS_asgD sD)
theorem sasg {tg : Expr} {ts : List Nat} {kk : D → M Unit} (he : DE (cx X s E) X e f) (hg : DG (cx X s E) X tg ts kk) (hs : swapsWithSole [tg] e pos.line X.env = pure false := by rfl) (hw : swappedStores [tg] e X.env = pure none := by rfl) (h1 : (assignEach [tg] X.env).map (·.2) = [assign tg X.env] := by rfl) : DS (cx X s E) X (.Assign [tg] e pos) (asgM f kk) := dS (ps_asg he hg hs hw h1) (satS_asg sE sG)
theorem sexpr (he : DE (cx X s E) X e f) (hs : swapsWith e none pos.line X.env = pure false := by rfl) : DS (cx X s E) X (.Expr e pos) (dropM f) := dS (ps_expr he hs) (satS_drop sE)
theorem sret (he : DE (cx X s E) X e f) : DS (cx X s E) X (.Return (some e) pos) (retM f) := dS (ps_ret he) (satS_ret sE)
theorem sif {ta tb : List Stmt} {m n : M Fl} (hc : DT (cx X s E) X c ft) (h1 : DSs (cx X s E) X ta m) (h2 : DSs (cx X s E) X tb n) : DS (cx X s E) X (.If c ta tb pos) (ifM ft m n) := dS (ps_if hc h1 h2) (satS_if sT sS sS)
theorem sbrk : DS (cx X s E) X (.Break pos) (pureM .brk) := dS ps_break satS_brk
theorem scnt : DS (cx X s E) X (.Continue pos) (pureM .cont) := dS ps_continue satS_cont
theorem sfor {tg iter : Expr} {body : List Stmt} {ts : List Nat} {src : M (List D)} {kk : D → M Unit} {m : M Fl} (hp : PassesOwn (model X.prog X.w) X.A X.env X.xe) (hc : X.calm = true) (hi : DI (cx X s E) X tg iter src) (hg : DG (cx X s E) X tg ts kk) (hb : DSs (cx X s E) X body m) (hs : ∀ x, foldedSetIterable iter X.env x = pure x := by intro _; rfl) :
    DS (cx X s E) X (.For tg iter body [] pos) (forS src kk m) := dS (ps_for hp hc hi hg hb hs) (satS_for sI sG sS)
theorem swhile (n : Nat) {body : List Stmt} {m : M Fl} (hp : PassesOwn (model X.prog X.w) X.A X.env X.xe) (hc : DT (cx X s E) X c ft) (hb : DSs (cx X s E) X body m) : DS (cx X s E) X (.While c body [] pos) (whileM n ft m) := dS (ps_while hp hc hb) (satS_while n sT sS)
theorem saug (i : Nat) {x : Str} {op : Operator} {ti : TIp} {h : D → D → Option D} (hN : X.N.Nodup) (ho : PIp X op ti) (hr : V2 (cx X s E) ti h) (he : DE (cx X s E) X e f) (hi : X.N[i]? = some x := by rfl) (hx : Loc X.env.scope x := by first | exact Or.inl rfl | exact Or.inr rfl) (hf : X.fn x = true ∨ X.env.scope.names.lookup x = some .local := by first | exact .inl rfl | exact .inr rfl) :
    DS (cx X s E) X (.AugAssign (.Name x p1) op e pos) (augM i h f) := dS (ps_aug hN hi hx he ho hf) (satS_aug hr sE)
theorem v2_ipadd : V2 (cx X s E) (ipI fun i j => i + j) (i2D (fun _ _ => true) fun i j => .int (i + j)) := by
  intro H B x y dx dy d Q L rx ry e q
  cases rx with
  | int i =>
    cases ry with
    | int j => cases e; exact ⟨i, j, rfl, rfl, q _ H B .refl (.int _)⟩
    | _ => cases e
  | _ => cases e
theorem spar (i j : Nat) {x y : Str} {px py pt : Pos} {kt k2 pt2} (hc : X.calm = true) (hN : X.N.Nodup) (ha : DA (cx X s E) X [a, b] fa) (hw : swappedStores [.Tuple [.Name x px, .Name y py] kt pt] (.Tuple [a, b] k2 pt2) X.env = pure (some [x, y]) := by rfl) (hi : X.N[i]? = some x := by rfl) (hj : X.N[j]? = some y := by rfl) (hij : i ≠ j := by decide)
    (hx : X.env.scope.names.lookup x = some .local := by rfl) (hy : X.env.scope.names.lookup y = some .local := by rfl) (hs : swapsWithSole [.Tuple [.Name x px, .Name y py] kt pt] (.Tuple [a, b] k2 pt2) pos.line X.env = pure false := by rfl) :
    DS (cx X s E) X (.Assign [.Tuple [.Name x px, .Name y py] kt pt] (.Tuple [a, b] k2 pt2) pos) (parM i j fa) := dS (ps_par hc hN hi hj hij hx hy ha hw hs) (satS_par sA)
theorem sdput (hu : X.A.units + 65 < cLine) (i : Nat) {x : Str} {px : Pos} {v : Expr} (hk : DE (cx X s E) X b k) (hv : DE (cx X s E) X v f) (ho : PE X (.Name x px) (tVar i) := by exact pv _) (hs : swapsWith v (some (.Subscript (.Name x px) b p1)) pos.line X.env = pure false := by rfl) :
    DS (cx X s E) X (.Assign [.Subscript (.Name x px) b p1] v pos) (dputM i k f) := dS (ps_dput (by omega) ho hk hv hs) (satS_dput sE sE)
theorem sapp (i : Nat) {x : Str} {px : Pos} (he : DE (cx X s E) X e f) (ho : PE X (.Name x px) (tVar i) := by exact pv _) (hb : attributeBase (.Name x px) "append" X.env (eval (.Name x px) X.env) = eval (.Name x px) X.env := by rfl)
    (hfew : ((backTo p1 (starEach [e] X.env)).all (fun x => !x.1) && (backToKw p1 (keywordEach [] X.env)).all (fun x => x.1.isSome) && decide ([e].length + ([] : List Keyword).length + (if ([] : List Keyword).isEmpty then 0 else 1) < 30)) = true := by rfl)
    (hl : (apos.endLine == p1.line) = true := by rfl) (hs : starEach [e] X.env = [(false, eval e X.env)] := by rfl) : DS (cx X s E) X (.Expr (.Call (.Attribute (.Name x px) "append" apos) [e] [] p1) pos) (appM i f) := dS (ps_expr (pe_bm PySem.F.plainAttrs_list PySem.F.slot_list_append PySem.F.type_list_append mt_append ho (pa_cons he pa_nil hs) hb hfew hl hs rfl)) (satS_app sE)
theorem sext (i : Nat) {x : Str} {px : Pos} (he : DE (cx X s E) X e f) (ho : PE X (.Name x px) (tVar i) := by exact pv _) (hb : attributeBase (.Name x px) "extend" X.env (eval (.Name x px) X.env) = eval (.Name x px) X.env := by rfl)
    (hfew : ((backTo p1 (starEach [e] X.env)).all (fun x => !x.1) && (backToKw p1 (keywordEach [] X.env)).all (fun x => x.1.isSome) && decide ([e].length + ([] : List Keyword).length + (if ([] : List Keyword).isEmpty then 0 else 1) < 30)) = true := by rfl)
    (hl : (apos.endLine == p1.line) = true := by rfl) (hs : starEach [e] X.env = [(false, eval e X.env)] := by rfl) : DS (cx X s E) X (.Expr (.Call (.Attribute (.Name x px) "extend" apos) [e] [] p1) pos) (extM i f) := dS (ps_expr (pe_bm PySem.F.plainAttrs_list PySem.F.slot_list_extend PySem.F.type_list_extend mt_extend ho (pa_cons he pa_nil hs) hb hfew hl hs rfl)) (satS_ext sE)
theorem gpop (i : Nat) {x : Str} {px : Pos} (he : DE (cx X s E) X e f) (ho : PE X (.Name x px) (tVar i) := by exact pv _) (hb : attributeBase (.Name x px) "pop" X.env (eval (.Name x px) X.env) = eval (.Name x px) X.env := by rfl)
    (hfew : ((backTo p1 (starEach [e] X.env)).all (fun x => !x.1) && (backToKw p1 (keywordEach [] X.env)).all (fun x => x.1.isSome) && decide ([e].length + ([] : List Keyword).length + (if ([] : List Keyword).isEmpty then 0 else 1) < 30)) = true := by rfl)
    (hl : (apos.endLine == p1.line) = true := by rfl) (hs : starEach [e] X.env = [(false, eval e X.env)] := by rfl) : DE (cx X s E) X (.Call (.Attribute (.Name x px) "pop" apos) [e] [] p1) (popM i f) := dE (pe_bm PySem.F.plainAttrs_list PySem.F.slot_list_pop PySem.F.type_list_pop mt_popAt ho (pa_cons he pa_nil hs) hb hfew hl hs rfl) (sat_pop sE)
theorem gcnt {o : Expr} (ho : DE (cx X s E) X o f) (he : DE (cx X s E) X e k) (hb : attributeBase o "count" X.env (eval o X.env) = eval o X.env := by rfl)
    (hfew : ((backTo p1 (starEach [e] X.env)).all (fun x => !x.1) && (backToKw p1 (keywordEach [] X.env)).all (fun x => x.1.isSome) && decide ([e].length + ([] : List Keyword).length + (if ([] : List Keyword).isEmpty then 0 else 1) < 30)) = true := by rfl)
    (hl : (apos.endLine == p1.line) = true := by rfl) (hs : starEach [e] X.env = [(false, eval e X.env)] := by rfl) : DE (cx X s E) X (.Call (.Attribute o "count" apos) [e] [] p1) (cntM f k) := dE (pe_bm PySem.F.plainAttrs_list PySem.F.slot_list_count PySem.F.type_list_count mt_lcount ho (pa_cons he pa_nil hs) hb hfew hl hs rfl) (sat_cnt sE sE)
end
end DL

set_option Elab.async false
set_option linter.all false
set_option maxRecDepth 100000
set_option maxHeartbeats 4000000
/-! DL15: calls of defs by name, of a def chosen from a written list; raise; try with the law's own telling of the error. -/
namespace DL
open PySem PySem.Spec L2 StX
open PyProof.Rows hiding St

/-- a def of the module that tells h -/
structure CalD (P : Program) (w : World) (K : PySem.W.Frag) (mg : Str → Option Value) (base : Heap) (x : Str) (k : Nat) (h : FnM) : Prop where
  ex : ∃ (f : Addr) (fd : FuncData) (ps : List Str), FnG P w K mg base k f fd ps (spD K mg h) ∧ mg x = some (.ref f) ∧ PySem.W.keepIn K (.ref f) = true ∧ Binds K fd ps []
theorem CalD.mono {P : Program} {w : World} {K : PySem.W.Frag} {mg : Str → Option Value} {base : Heap} {x : Str} {j k : Nat} {h : FnM} (c : CalD P w K mg base x j h) (hk : j ≤ k) : CalD P w K mg base x k h := by
  obtain ⟨f, fd, ps, F, m, kp, b⟩ := c.ex
  exact ⟨f, fd, ps, F.mono hk, m, kp, b⟩
def toX (C : Ctx) (f : M (List Slot)) : TA := fun σ H Q => ∃ N B g, Rep C N σ H B g ∧ FinX C N σ B (f g) Q
abbrev DX (C : Ctx) (X : Cx) (e : List Expr) (f : M (List Slot)) : Prop := PA X e (toX C f)
theorem sX {C : Ctx} {f : M (List Slot)} : SatX C (toX C f) f := fun N σ H B g Q R q => ⟨N, B, g, R, q⟩
theorem dX {C : Ctx} {X : Cx} {e : List Expr} {t : TA} {f : M (List Slot)} (h : PA X e t) (s : SatX C t f) : DX C X e f := ⟨fun pos pins s0 σ H Q I ⟨N, B, g, R, q⟩ => h.run pos pins s0 σ H Q I (s N σ H B g Q R q)⟩
section
variable {X : Cx} {s : Option StC} {E : St → XK}
variable {a b c e : Expr} {es : List Expr} {f k l : M D} {fa : M (List D)} {fx : M (List Slot)} {pos p p1 p2 p3 apos : Pos}
theorem xdat (h : DA (cx X s E) X es fa) : DX (cx X s E) X es (datsM fa) := dX h (satX_dats sA)
theorem xsta (i : Nat) {x : Str} {px : Pos} (h : DA (cx X s E) X es fa) (hv : PE X (.Name x px) (tVar i) := by exact pv _) (hs : starEach (.Name x px :: es) X.env = (false, eval (.Name x px) X.env) :: starEach es X.env := by rfl) : DX (cx X s E) X (.Name x px :: es) (staM i fa) := dX (pa_cons hv h hs) (satX_sta sA)
theorem gcall {x : Str} {n : Nat} {h : FnM} (cd : CalD X.prog X.w X.K X.mg X.base x n h) (hr : Room n X.A) (hgu : X.A.guards = some []) (hx : ∀ σ, PassesAt (L2N.CX X.prog X.w) X σ (E σ)) (ha : DX (cx X s E) X (e :: es) fx) (hg : Gl X x := by rfl)
    (hdb : (x == ("__debug__" : Str)) = false := by decide) (he : starEach (e :: es) X.env = (false, eval e X.env) :: starEach es X.env := by rfl) (hpl : (backTo pos (starEach es X.env)).any (·.1) = false := by rfl) :
    DE (cx X s E) X (.Call (.Name x p) (e :: es) [] pos) (callM h (nsOf s) fx) := by
  obtain ⟨fa, fd, ps, F, m, kp, b⟩ := cd.ex
  exact dE (pe_callG F hr hgu hg m kp b hx ha hdb he hpl) (sat_call (C := cx X s E) sX)

/-! ### a def chosen from a written list -/
def tRefs (l : List (Addr × FnM)) : TA := fun _ H Q => Q (l.map fun x => V.ref x.1) H
structure PickOk (X : Cx) (n : Nat) (fs : List Expr) (hs : List FnM) : Prop where
  ex : ∃ l : List (Addr × FnM), l.map (·.2) = hs ∧ l.length = fs.length ∧ PA X fs (tRefs l) ∧ ∀ x ∈ l, ∃ (fd : FuncData) (ps : List Str), FnG X.prog X.w X.K X.mg X.base n x.1 fd ps (spD X.K X.mg x.2) ∧ PySem.W.keepIn X.K (.ref x.1) = true ∧ Binds X.K fd ps []
theorem pknil {n : Nat} : PickOk X n [] [] := ⟨[], rfl, rfl, pa_nil, fun _ h => nomatch h⟩
theorem pkcons {x : Str} {n : Nat} {h : FnM} {hs : List FnM} (cd : CalD X.prog X.w X.K X.mg X.base x n h) (r : PickOk X n es hs) (hg : Gl X x := by rfl) (hd : (x == ("__debug__" : Str)) = false := by decide) (he : starEach (.Name x p :: es) X.env = (false, eval (.Name x p) X.env) :: starEach es X.env := by rfl) : PickOk X n (.Name x p :: es) (h :: hs) := by
  obtain ⟨fa, fd, ps, F, m, kp, b⟩ := cd.ex
  obtain ⟨l, e, el, pa, al⟩ := r.ex
  refine ⟨(fa, h) :: l, by rw [List.map_cons, e], by rw [List.length_cons, List.length_cons, el], pa_cons (pe_glob (v := .ref fa) hg m rfl hd) pa he, fun y hy => ?_⟩
  rcases List.mem_cons.mp hy with rfl | hy
  · exact ⟨fd, ps, F, kp, b⟩
  · exact al y hy
def pickM (hs : List FnM) (ns : List Int) (fi : M D) (fx : M (List Slot)) : M D := bindM fi fun i => bindM (liftO ((oneInt i).bind fun j => L2.atI hs j)) fun h => callM h ns fx
theorem atI_mapF {α β : Type} (g : α → β) (l : List α) (i : Int) {y : β} (h : L2.atI (l.map g) i = some y) : ∃ x, L2.atI l i = some x ∧ g x = y := by
  unfold L2.atI at h ⊢
  rw [List.length_map] at h
  cases e : ixN l.length i with
  | none => rw [e] at h; cases h
  | some j =>
    rw [e] at h
    have h : (l.map g)[j]? = some y := h
    rw [List.getElem?_map] at h
    cases e2 : l[j]? with
    | none => rw [e2] at h; cases h
    | some x => rw [e2] at h; cases h; exact ⟨x, e2, rfl⟩
theorem mem_of_atI {α : Type} {l : List α} {i : Int} {x : α} (h : L2.atI l i = some x) : x ∈ l := by
  unfold L2.atI at h
  cases e : ixN l.length i with
  | none => rw [e] at h; cases h
  | some j => rw [e] at h; exact List.mem_of_getElem? h
theorem gpick {fs : List Expr} {ix : Expr} {n : Nat} {hs : List FnM} {fi : M D} (pk : PickOk X n fs hs) (hr : Room n X.A) (hgu : X.A.guards = some []) (hx : ∀ σ, PassesAt (L2N.CX X.prog X.w) X σ (E σ)) (hi : DE (cx X s E) X ix fi) (ha : DX (cx X s E) X (e :: es) fx) (hl : fs.length ≤ 1000 := by decide) (hpi : PlainIx ix := by intro _ _; rfl)
    (he : starEach (e :: es) X.env = (false, eval e X.env) :: starEach es X.env := by rfl) (hpl : (backTo pos (starEach es X.env)).any (·.1) = false := by rfl) :
    DE (cx X s E) X (.Call (.Subscript (.List fs p1) ix p2) (e :: es) [] pos) (pickM hs (nsOf s) fi fx) := by
  obtain ⟨l, rfl, el, pa, al⟩ := pk.ex
  have hfe : PE X (.Subscript (.List fs p1) ix p2) (tOp (rIx X.K) (tLst (tRefs l)) (toE (cx X s E) fi)) := pe_ix ix_seq (pe_lst pa) hi hpi
  refine ⟨fun pins s0 σ H Q I hq => ?_⟩
  obtain ⟨N, B, g, R, q⟩ := hq
  show wpAny _ _ (do callWith pos (← eval (.Subscript (.List fs p1) ix p2) X.env) [] (backTo pos (starEach (e :: es) X.env)) (backToKw pos (keywordEach [] X.env))) _ _ _
  -- the list of the defs has at most as many as are written
  refine wpAny_bind (thn (hfe.run pins s0 σ H (fun v H1 => ∃ x, x ∈ l ∧ v = .ref x.1 ∧ ∃ B1 g1, Rep (cx X s E) N σ H1 B1 g1 ∧ Fin (cx X s E) N σ B (callM x.2 (nsOf s) fx g1) Q ∧ Le B B1) I ?_) fun v s1 hv => ?_)
  · have key : ∀ pl, H pl = none → toE (cx X s E) fi σ (upd H pl (.lst (l.map fun x => V.ref x.1))) fun y H2 => rIx X.K (.ref pl) y H2 (fun v H1 => ∃ x, x ∈ l ∧ v = .ref x.1 ∧ ∃ B1 g1, Rep (cx X s E) N σ H1 B1 g1 ∧ Fin (cx X s E) N σ B (callM x.2 (nsOf s) fx g1) Q ∧ Le B B1) := fun pl hpl' => by
      have h0 : N.H0 pl = none := R.fresh hpl'
      have R1 : Rep (cx X s E) ⟨upd N.H0 pl (.lst (l.map fun x => V.ref x.1)), N.B0⟩ σ (upd H pl (.lst (l.map fun x => V.ref x.1))) B g := (R.newl hpl').anchor upd_same (R.sub_none hpl') h0 (R.free_own hpl')
      have hb0 : N.B0 pl = none := R.b0 (R.sub_none hpl')
      have hst : ∀ c, (cx X s E).st = some c → c.a ≠ pl := fun c hc => R.stne hc h0
      refine (sE (C := cx X s E) (f := fi)).run (P := fun x => Fin (cx X s E) N σ B x Q) R1 q (fun n' ct z cl H' B' R' hm => ?_) (fun z => z) fun d g1 v1 H2 B2 _ R2 L2' rp q1 => ?_
      · exact z cl H' B' (R'.unanchor h0 hb0 hst).1 hm
      · have q1 : Fin (cx X s E) N σ B (bindM (liftO ((oneInt d).bind fun j => L2.atI (l.map (·.2)) j)) (fun h => callM h (nsOf s) fx) g1) Q := q1
        cases eo : (oneInt d).bind fun j => L2.atI (l.map (·.2)) j with
        | none => rw [eo] at q1; exact q1.elim
        | some h =>
          rw [eo] at q1
          cases e1 : oneInt d with
          | none => rw [e1] at eo; cases eo
          | some j =>
            rw [e1] at eo
            obtain rfl := oneInt_some e1
            cases rp
            obtain ⟨x, ex, rfl⟩ := atI_mapF (fun z : Addr × FnM => z.2) l j eo
            obtain ⟨U1, U2⟩ := R2.unanchor h0 hb0 hst
            have hat : L2.atI (l.map fun x => V.ref x.1) j = some (V.ref x.1) := by
              unfold L2.atI at ex ⊢
              rw [List.length_map]
              cases e2 : ixN l.length j with
              | none => rw [e2] at ex; cases ex
              | some m =>
                rw [e2] at ex
                show (l.map fun x => V.ref x.1)[m]? = _
                rw [List.getElem?_map]
                have ex : l[m]? = some x := ex
                rw [ex]; rfl
            have hp2 : H2 pl = some (.lst (l.map fun x => V.ref x.1)) := R2.keep pl _ upd_same fun c hc z => (hst c hc z.symm)
            exact .inl ⟨pl, _, j, _, rfl, rfl, SqL.of hp2, hat, x, mem_of_atI ex, rfl, B2, g1, U1, q1, L2'⟩
    refine ⟨?_, key⟩
    rw [List.length_map, el]
    exact Nat.le_trans hl (by decide)
  · obtain ⟨y, H1, I1, ry, x, hxl, rfl, B1, g1, R1, q1, L1⟩ := hv
    cases ry
    obtain ⟨fd, ps, F, kp, hb⟩ := al x hxl
    refine PySem.W.callWith_K (h₀ := X.base) I1.ok.mod.kin kp (thn (ha.run pos pins s1 σ H1 (fun vs H2 => spD X.K X.mg x.2 vs H2 Q (E σ)) I1 ?_) fun us s2 ⟨vs, H2, I2, r, q2⟩ => ⟨I2.kIn, ?_⟩) he hpl
    · have sc := sat_call (h := x.2) (sX (C := cx X s E) (f := fx)) N σ H1 B1 g1 Q R1 (q1.le L1)
      unfold tCallSD at sc
      simpa only [List.append_nil] using sc
    · have hlen : us.length = ps.length := r.length ▸ F.len _ _ _ _ q2
      have b := hb s2 us I2.kIn (by rw [List.append_nil]; exact hlen)
      rw [List.append_nil] at b
      refine wpAny_call (codeAny_mono (F.run X.A X.stack s2 H2 ⟨us, []⟩ us vs Q (E σ) hr hgu I2.env0 b r q2) fun r s' hq => ?_)
      match r with
      | .error e => exact hx σ pins H2 s2 e s' I2 hq
      | .ok (.ret u) => exact I2.after hq
      | .ok .next => exact hq.elim
      | .ok .brk => exact hq.elim
      | .ok .cont => exact hq.elim
end
end DL

set_option Elab.async false
set_option linter.all false
set_option maxRecDepth 100000
set_option maxHeartbeats 4000000
/-! DL16: raise; the law's telling of an error; try. -/
namespace DL
open PySem PySem.Spec L2 StX
open PyProof.Rows hiding St

/-- an own error without __init__ -/
structure ExcD (K : PySem.W.Frag) (mg : Str → Option Value) (x : Str) : Prop where
  ex : ∃ C : Addr, mg x = some (.ref C) ∧ PySem.W.excIn K C [.type "Exception", .type "BaseException", .type "object"] "Exception.__new__" = true ∧ PySem.W.keepIn K (.ref C) = true ∧ PySem.W.subIn K (.ref C) (.type "BaseException") = some true ∧ PySem.W.typeIn K (.ref C) = some (.type "type")
abbrev wx (E : St → XK) : WX := fun cls d σ H => E σ cls d H
section
variable {X : Cx} {s : Option StC} {E : St → XK} {pos p p1 p2 p3 apos : Pos}
theorem sraise {x m : Str} {j} (hc : X.calm = true) (tk : L2N.Takes X (wx E)) (ed : ExcD X.K X.mg x) (hg : Gl X x := by rfl) (hdb : (x == ("__debug__" : Str)) = false := by decide) :
    DS (cx X s E) X (.Raise (some (.Call (.Name x p) [.Constant (.str m) j p2] [] p3)) none pos) (raiseM x) := by
  obtain ⟨C, g, q, k, b, t⟩ := ed.ex
  exact dS (L2N.ps_raise hc tk (L2N.pmk_own PySem.F.excBase_Exception q g k (raises_own b t) hg hdb)) (satS_raise (C := cx X s E) g)
end

/-! ### the law's telling of an error -/
/-- _law_error of an error of the class cl tells z -/
structure FnE (P : Program) (w : World) (K : PySem.W.Frag) (mg : Str → Option Value) (base : Heap) (k : Nat) (f : Addr) (fd : FuncData) (cl : Addr) (z : Str) : Prop where
  run : ∀ (A : Around) (outer : List Env) (s : Shared) (H : Hp) (us : List Value) (Q : VK) (a : Addr) (oe : Obj) (vs : Array Value), L2H.RoomH k A → A.handled = some (.ref a) → L2N.Zn (.ref cl) none oe → oe.data = .fields vs → L2H.PinOk outer H s (a, oe) → Env0 P w K mg base A outer s H → BindsTo s fd ⟨us, []⟩ (([("e" : Str)] : List Str).zip us) → Vals [.ref a] us →
    (∀ H', Le H H' → Q (.str z) H') → codeAny (model P w) A (.call (.ref f) ⟨us, []⟩) (CR (L2N.CX P w) outer P w H s Q L2.E0) s
/-- what the try of a law's told asks: the caught class, and of each error that may come how it is told -/
structure ErrD (P : Program) (w : World) (K : PySem.W.Frag) (mg : Str → Option Value) (base : Heap) (k : Nat) (nm : Str → Option Str) : Prop where
  ex : ∃ (f : Addr) (fd : FuncData) (eN : Addr), mg "NetError" = some (.ref eN) ∧ mg "_law_error" = some (.ref f) ∧ PySem.W.keepIn K (.ref f) = true ∧ Binds K fd ["e"] [] ∧
    ∀ n z cl, nm n = some z → mg n = some (.ref cl) → PySem.W.exmOne K (.ref cl) (.ref eN) = some true ∧ FnE P w K mg base k f fd cl z
def tryM (nm : Str → Option Str) (f : M Fl) : M Fl := fun g => match f g with
  | .exc n ct => match nm n with
    | some z => .ok (.ret (.str z)) ⟨g.sl.map fun _ => .no, ct⟩
    | none => .bad
  | r => r
theorem Rep.reB {C : Ctx} {N : An} {σ : St} {H B : Hp} {g : Sg} (R : Rep C N σ H B g) : Rep C ⟨N.H0, B⟩ σ H B g := ⟨R.len, R.slots, R.sep, R.sub, fun _ _ q => q, fun _ _ q => .inl q, R.ownNew, R.keep, R.st⟩
theorem Rep.unreB {C : Ctx} {N : An} {σ σ' : St} {H B H' B' : Hp} {g g' : Sg} (R : Rep C N σ H B g) (R' : Rep C ⟨N.H0, B⟩ σ' H' B' g') : Rep C N σ' H' B' g' := ⟨R'.len, R'.slots, R'.sep, R'.sub, fun a o q => R'.up a o (R.up a o q), fun a o q => (R'.new a o q).elim (fun z => R.new a o z) .inr, R'.ownNew, R'.keep, R'.st⟩
theorem Rep.bare2 {C : Ctx} {N : An} {σ σ' : St} {H B : Hp} {g : Sg} (R : Rep C N σ H B g) {n : Nat} (hl : σ'.length = n) : Rep C N σ' H B ⟨List.replicate n Slot.no, g.ct⟩ where
  len := by simp [hl]
  slots := fun i s e => by
    have e : (List.replicate n Slot.no)[i]? = some s := e
    rw [List.getElem?_replicate] at e
    split at e
    · cases e; trivial
    · cases e
  sep := fun i j p _ hi => by
    obtain ⟨s, e, h⟩ := hi
    have e : (List.replicate n Slot.no)[i]? = some s := e
    rw [List.getElem?_replicate] at e
    split at e
    · cases e; cases h
    · cases e
  sub := R.sub
  up := R.up
  new := R.new
  ownNew := fun i p hi => by
    obtain ⟨s, e, h⟩ := hi
    have e : (List.replicate n Slot.no)[i]? = some s := e
    rw [List.getElem?_replicate] at e
    split at e
    · cases e; cases h
    · cases e
  keep := R.keep
  st := R.st
section
variable {X : Cx} {s : Option StC} {E : St → XK} {pos p p1 p2 p3 p4 p5 np apos : Pos}
/-- the suite: return _law_error(e) -/
theorem suite_tells {a f : Addr} {oe : Obj} {cls : Value} {d : Option Addr} {pn : List (Addr × Obj)} {i k : Nat} {fd : FuncData} (hr : Room k X.A) (hm : X.mg "_law_error" = some (.ref f)) (hk : PySem.W.keepIn X.K (.ref f) = true) (hb : Binds X.K fd ["e"] [])
    (hz : L2N.Zn cls d oe) (hf : ∃ vs, oe.data = .fields vs) (hi : X.N[i]? = some "e") (hv : PE (X.suite a ((a, oe) :: pn)) (.Name "e" p2) (tVar i)) (hg : Gl X "_law_error") (he : starEach [.Name "e" p2] X.env = [(false, eval (.Name "e" p2) X.env)]) (hpl : (backTo p3 (starEach [] X.env)).any (·.1) = false) :
    PSs (X.suite a ((a, oe) :: pn)) [.Return (some (.Call (.Name "_law_error" p1) [.Name "e" p2] [] p3)) p4]
      (fun D σ H => ∃ (cl : Addr) (z : Str), cls = .ref cl ∧ d = none ∧ FnE X.prog X.w X.K X.mg X.base k f fd cl z ∧ (∃ σ0 : St, σ = σ0.set i (some (.ref a))) ∧ ∀ H', Le H H' → D.rt (.str z) H') := by
  have call : PE (X.suite a ((a, oe) :: pn)) (.Call (.Name "_law_error" p1) [.Name "e" p2] [] p3) (fun σ H Q => ∃ (cl : Addr) (z : Str), cls = .ref cl ∧ d = none ∧ FnE X.prog X.w X.K X.mg X.base k f fd cl z ∧ (∃ σ0 : St, σ = σ0.set i (some (.ref a))) ∧ ∀ H', Le H H' → Q (.str z) H') := by
    refine ⟨fun pins s σ H Q I h => ?_⟩
    obtain ⟨cl, z, rfl, rfl, F, ⟨σ0, e0⟩, q⟩ := h
    have hlt : i < σ0.length := by
      have := I.len
      rw [e0, List.length_set] at this
      rw [this]
      exact (List.getElem?_eq_some_iff.mp hi).1
    have ei : σ[i]? = some (some (.ref a)) := by rw [e0, List.getElem?_set_self hlt]
    refine wpAny_Call_Name_kw (ld_glob (X := X.suite a ((a, oe) :: pn)) I hg hm (PySem.W.callWith_K (h₀ := X.base) I.ok.mod.kin hk (thn ((pa_cons hv pa_nil he).run p3 pins s σ H (fun vs H1 => vs = [.ref a] ∧ H1 = H) I ⟨_, ei, rfl, rfl⟩) fun us s1 ⟨vs, H1, I1, r, ev, eH⟩ => ⟨I1.kIn, ?_⟩) he hpl) (by decide))
    subst ev
    subst eH
    have hl : us.length = 1 := r.length.symm
    have b := hb s1 us I1.kIn (by rw [List.append_nil]; exact hl)
    rw [List.append_nil] at b
    obtain ⟨vs, hvs⟩ := hf
    have P1 := I1.pin (a, oe) (List.mem_append_left _ List.mem_cons_self)
    have hpin : L2H.PinOk X.stack H1 s1 (a, oe) := ⟨P1.1, P1.2.1, fun hm => (List.mem_cons.mp (I1.stkSub _ hm)).elim P1.2.2.1 P1.2.2.2.1, P1.2.2.2.2⟩
    refine wpAny_call (codeAny_mono (F.run _ X.stack s1 H1 us Q a oe vs ⟨hr.dp, hr.un⟩ rfl hz hvs hpin I1.env0 b r q) fun r s' hq => ?_)
    match r with
    | .error e => obtain ⟨_, _, _, _, _, _, _, _, _, _, _, _, z⟩ := hq; exact z.elim
    | .ok (.ret u) => exact I1.after hq
    | .ok .next => exact hq.elim
    | .ok .brk => exact hq.elim
    | .ok .cont => exact hq.elim
  exact pss_one (ps_ret call)
theorem stry {k : Nat} {nm : Str → Option Str} {body : List Stmt} {fm : M Fl} (i : Nat) (ed : ErrD X.prog X.w X.K X.mg X.base k nm) (hr : Room k X.A) (hs : X.stack = X.env :: X.outer) (hf : X.env.frame = some X.env.locals) (hN : X.N.Nodup)
    (hb : ∀ (W : WX) (pn : List (Addr × Obj)) (xe : Value → Shared → Prop), L2N.Takes (X.tr pn xe) W → PassesOwn (model X.prog X.w) X.A X.env xe → DSs (cx (X.tr pn xe) s (WE W)) (X.tr pn xe) body fm)
    (hv : ∀ a pn, PE (X.suite a pn) (.Name "e" p2) (tVar i) := by intro _ _; exact pv _) (hi : X.N[i]? = some "e" := by rfl) (hln : X.env.kindOf "e" = some .local := by rfl) (hg : Gl X "_law_error" := by rfl) (hgN : Gl X "NetError" := by rfl)
    (he : starEach [.Name "e" p2] X.env = [(false, eval (.Name "e" p2) X.env)] := by rfl) (hpl : (backTo p3 (starEach [] X.env)).any (·.1) = false := by rfl) :
    DS (cx X s E) X (.Try body [.ExceptHandler (some (.Name "NetError" np)) (some "e") [.Return (some (.Call (.Name "_law_error" p1) [.Name "e" p2] [] p3)) p4] p5] [] [] pos) (tryM nm fm) := by
  obtain ⟨f, fd, eN, gN, gf, kf, bf, al⟩ := ed.ex
  have tk0 : L2N.Takes X (fun _ _ _ _ => False) := fun _ _ x => by
    obtain ⟨_, _, _, _, _, _, _, _, _, _, _, _, _, _, _, _, z⟩ := x
    exact z.elim
  have ps := L2N.ps_try_as (pos := pos) (i := i) (tb := fun W => toS (cx X s (WE W)) fm) (Wout := fun _ _ _ _ => False) hs hf hN hi hln ⟨hgN, by decide, .inl gN⟩ tk0 hb
    (fun a oe cls d pn hz hfl => suite_tells (k := k) (p1 := p1) (p2 := p2) (p3 := p3) (p4 := p4) hr gf kf bf hz hfl hi (hv _ _) hg he hpl) (np := np) (pos' := p5)
  refine dS ps fun N σ H B g D R q => ?_
  have R0 : Rep (cx X s (WE (wAs X.K (.ref eN) i (fun a cls d => fun D σ H => ∃ (cl : Addr) (z : Str), cls = .ref cl ∧ d = none ∧ FnE X.prog X.w X.K X.mg X.base k f fd cl z ∧ (∃ σ0 : St, σ = σ0.set i (some (.ref a))) ∧ ∀ H', Le H H' → D.rt (.str z) H') (fun _ _ _ _ => False) D))) ⟨N.H0, B⟩ σ H B g := (R.chE _).reB
  refine ⟨⟨N.H0, B⟩, B, g, R0, ?_⟩
  unfold tryM at q
  cases e : fm g with
  | bad => rw [e] at q; exact q
  | ok fl g1 =>
    rw [e] at q
    cases fl with
    | next => exact fun σ' H' B' R' L => q σ' H' B' (R.unreB (R'.chE _)) L
    | brk => exact fun σ' H' B' R' L => q σ' H' B' (R.unreB (R'.chE _)) L
    | cont => exact fun σ' H' B' R' L => q σ' H' B' (R.unreB (R'.chE _)) L
    | ret d => exact fun v σ' H' B' R' L rp => q v σ' H' B' (R.unreB (R'.chE _)) L rp
  | exc n ct =>
    rw [e] at q
    have q : FinS (cx X s E) N B (match nm n with
      | some z => .ok (.ret (.str z)) ⟨g.sl.map fun _ => .no, ct⟩
      | none => .bad) D := q
    cases e2 : nm n with
    | none => rw [e2] at q; exact q.elim
    | some z =>
      rw [e2] at q
      intro cl σ' H' B' R' hmn
      obtain ⟨ex, fe⟩ := al n z cl e2 hmn
      refine ⟨true, ex, fun _ a na => ⟨cl, z, rfl, rfl, fe, ⟨σ', rfl⟩, fun H2 L2' => ?_⟩, fun z => Bool.noConfusion z⟩
      have q : ∀ v σ' H' B', Rep (cx X s E) N σ' H' B' ⟨g.sl.map fun _ => Slot.no, ct⟩ → Le B B' → Rp X.K B' v (.str z) → D.rt v H' := q
      have em : (g.sl.map fun _ => Slot.no) = List.replicate g.sl.length Slot.no := List.map_const' ..
      rw [em] at q
      have R2 : Rep (cx X s E) N (List.replicate g.sl.length none) H' B' ⟨List.replicate g.sl.length Slot.no, ct⟩ := (R.unreB (R'.chE E)).bare2 (by simp)
      exact q _ _ H2 B' (R2.grow (.only L2')) R'.up (.str z)
end
end DL

set_option Elab.async false
set_option linter.all false
set_option maxRecDepth 100000
set_option maxHeartbeats 4000000
/-! DL17: the law's telling of an error, its body. -/
namespace DL
open PySem PySem.Spec L2 StX
open PyProof.Rows hiding St

section
variable {P : Program} {w : World} {K : PySem.W.Frag} {mg : Str → Option Value} {base : Heap}
theorem fnE_of {k : Nat} {x qual : Str} {st : Stmt} {f : Addr} {fd : FuncData} {N : List Str} {cl : Addr} {z : Str} (F : Fun K x qual st f fd) (S : FnScope N ["e"] (defScope st))
    (hbody : ∀ (cdv : Value) (A : Around) (outer : List Env) (s : Shared) (H : Hp) (Q : VK) (a : Addr) (oe : Obj) (vs : Array Value), L2H.RoomH k (A.deeper (envOfC qual (defScope st) s.heap.objs.size f cdv)) → L2H.Hot1 A (a, oe) → L2N.Zn (.ref cl) none oe → oe.data = .fields vs → (∀ H', Le H H' → Q (.str z) H') →
      ∃ t, PSs (L2H.cxH (L2N.CX P w) P w K mg base N qual (defScope st) f cdv A outer s H L2.E0 (a, oe)) (defBody st) t ∧ t { nx := fun _ H' => Q .non H', rt := Q } (start N [.ref a]) H) : FnE P w K mg base (k + 1) f fd cl z := by
  obtain ⟨oc, od, kV, doc, pm, an, cdv, ct, osl, rfl, lk, hcd⟩ := F.ex
  refine ⟨fun A outer s H us Q a oe vs hr hh hz hd hpin e0 hb r hq => ?_⟩
  have KX : K.In s.heap := e0.mod.kin.keeps fun b o e => (e0.bs b o e).1
  have hot : L2H.Hot1 A (a, oe) := ⟨hh, vs, hd, hz.2.2 vs hd⟩
  refine codeAny_call_function hr.depth (KX _ _ lk) rfl S.co S.gen rfl (PySem.W.codeRec_of KX hcd) (hb _ _ _ _ (wpAny_newFunctionEnv_cells S.kind (fun y hy => ?_) fun env he s1 ic => ?_))
  · rcases S.par y.1 (List.of_mem_zip hy).1 with q | q
    · exact .inl q
    · exact .inr ⟨q, PySem.W.cellsFrom_some _ _ _ (.inl q)⟩
  · subst he
    refine ⟨(e0.mod.nolimit.keeps fun b o e => (e0.bs b o e).1).keeps ic.toInCall.keep, codeAny_func ?_⟩
    obtain ⟨t, ht, hq2⟩ := hbody cdv A outer s H Q a oe vs (hr.deeper _) hot hz hd hq
    refine wpAny_mono (ht.run [] s1 (start N [.ref a]) H _ (L2H.inv_startH S hpin e0 rfl r ic) hq2) (fun fl s' hs => ?_) fun e s' hs => hs
    match fl with
    | .ret u =>
      obtain ⟨v, σ', H', J, rv, q⟩ := hs
      exact ⟨v, H', J.os, J.bare, J.base, J.hok, rv, q⟩
    | .next =>
      obtain ⟨σ', H', J, q⟩ := hs
      exact ⟨V.non, H', J.os, J.bare, J.base, J.hok, rfl, q⟩
    | .brk => obtain ⟨_, _, _, q⟩ := hs; exact q.elim
    | .cont => obtain ⟨_, _, _, q⟩ := hs; exact q.elim
end
/-- isinstance(e, c), e the handled error -/
def isM (i : Nat) (a : Addr) (b : Bool) : M D := fun g => match g.sl[i]? with
  | some (.raw (.ref a')) => if a' = a then .ok (.bool b) g else .bad
  | _ => .bad
theorem sat_isE {C : Ctx} {i : Nat} {a cl c : Addr} {b : Bool} (h : PySem.W.kitOne C.K (.ref cl) (.ref c) = some b) : Sat C (tCB (rIsE C.K cl a) (tCons (tVar i) (tCons (tC (.ref c)) tNil))) (isM i a b) := by
  intro N σ H B g Q R q
  unfold isM at q
  split at q
  · rename_i a' e
    split at q
    · rename_i ea
      subst ea
      have e1 := R.slots i _ e
      exact ⟨.ref a', getD_some e1, .ref c, .ref c, b, rfl, fun u hu => hu, h, q _ H B R (.refl _) (.bl b)⟩
    · exact q.elim
  · exact q.elim
theorem call_isP {X : Cx} {a cl : Addr} {oe : Obj} (hp : (a, oe) ∈ X.pn) (C : ExcC X.K cl) (hz : Zc (.ref cl) none oe) (hf : ∃ vs, oe.data = .fields vs) : CallR X (.builtin "isinstance") (rIsE X.K cl a) := by
  intro pins s σ H xs us Q I r h
  obtain ⟨c, cv, b, rfl, hcv, e, q⟩ := h
  obtain ⟨u, w', rfl, ru, rw'⟩ := vals2 r
  cases ru
  have ec := hcv _ rw'
  subst ec
  have hget := (I.pin (a, oe) (List.mem_append_left _ hp)).1
  obtain ⟨vs, hv⟩ := hf
  have J : PySem.W.InstAt s.heap a oe cl none := by
    obtain ⟨oc, od, oda, osl⟩ := oe
    obtain ⟨h1, h2⟩ := hz
    dsimp only at h1 h2 hv
    subst h1 h2 hv
    exact ⟨hget, rfl, rfl, trivial⟩
  exact PySem.W.kia_one (PySem.W.handS_kitx_exc C.hg C.hk C.hs C.hd C.ha C.hn C.ht C.hm) I.kIn J e (fun z => nomatch z) fun tk => ⟨.bl b, H, I.kept (t' := tk) fun _ _ z => z, rfl, q⟩
/-- the body's telling: which of the five classes it is -/
def errM (a : Addr) (b1 b2 b3 b4 b5 : Bool) : M Fl :=
  seqM (asgM (lstM (guardL (consM (isM 0 a b1) (consM (isM 0 a b2) (consM (isM 0 a b3) (consM (isM 0 a b4) (consM (isM 0 a b5) (pureM [])))))))) (putM 1))
  (seqM (asgM (lstM (lcM (srcA rng1 (consM (pureM (.int 5)) (pureM []))) (putM 3) (asB (op2 ixD (getM 1) (getM 3)))
    (op2 ixD (lstM (guardL (consM (pureM (.str "refused")) (consM (pureM (.str "large")) (consM (pureM (.str "missing")) (consM (pureM (.str "paper")) (consM (pureM (.str "form")) (pureM [])))))))) (getM 3)) [3])) (putM 2))
  (seqM (retM (op2 ixD (lstM (guardL (consM (pureM (.str "odd")) (consM (op2 ixD (op2 addD (getM 2) (lstM (guardL (consM (pureM (.str "")) (pureM []))))) (pureM (.int 0))) (pureM [])))))
    (opN intD (consM (op2 eqD (opN lenD (consM (getM 2) (pureM []))) (pureM (.int 1))) (pureM []))))) nextM))
def tells (r : Res Fl) (z : Str) : Prop := ∃ g, r = .ok (.ret (.str z)) g ∧ g.sl.length = 4
theorem errM_args (a : Addr) (b1 b2 b3 b4 b5 : Bool) (g : Sg) (hg : g.sl[0]? = some (.raw (.ref a))) :
    (consM (isM 0 a b1) (consM (isM 0 a b2) (consM (isM 0 a b3) (consM (isM 0 a b4) (consM (isM 0 a b5) (pureM [])))))) g = .ok [.bool b1, .bool b2, .bool b3, .bool b4, .bool b5] g := by
  have e : ∀ b, isM 0 a b g = .ok (.bool b) g := fun b => by
    unfold isM
    rw [hg]
    exact if_pos rfl
  simp only [consM, bindM, e, Res.bind, pureM]
theorem errM_1 (a : Addr) (ct : Int) : tells (errM a true false false false false ⟨[.raw (.ref a), .no, .no, .no], ct⟩) "refused" := by
  unfold errM seqM asgM lstM guardL bindM
  rw [errM_args _ _ _ _ _ _ _ rfl]
  exact ⟨_, rfl, rfl⟩
end DL

set_option Elab.async false
set_option linter.all false
set_option maxRecDepth 100000
set_option maxHeartbeats 4000000
/-! DL18: a, b = ([], y); the telling of errors, whole; the law's stream's next number. -/
namespace DL
open PySem PySem.Spec L2 StX
open PyProof.Rows hiding St

def parO (i j : Nat) (k : M D) : M Fl := bindM k fun y => fun g => .ok .next { g with sl := (g.sl.set i (.own [])).set j (.dat y) }
theorem satS_parO {C : Ctx} {i j : Nat} {te : TE} {k : M D} (h : Sat C te k) : SatS C (tPar i j (tCons (tLst tNil) (tCons te tNil))) (parO i j k) := by
  intro N σ H B g D R q
  refine ⟨Nat.zero_le _, fun p hp => ?_⟩
  have h0 : N.H0 p = none := R.fresh hp
  have R1 : Rep C ⟨upd N.H0 p (.lst []), N.B0⟩ σ (upd H p (.lst [])) B g := (R.newl hp).anchor upd_same (R.sub_none hp) h0 (R.free_own hp)
  have hb0 : N.B0 p = none := R.b0 (R.sub_none hp)
  have hst : ∀ c, C.st = some c → c.a ≠ p := fun c hc => R.stne hc h0
  refine h.run (P := fun x => FinS C N B x D) R1 q (fun n' ct z cl H' B' R' hm => z cl σ H' B' (R'.unanchor h0 hb0 hst).1 hm) (fun z => z) fun d g1 v1 H2 B2 _ R2 L2' rp q1 => ?_
  obtain ⟨U1, U2, U3, U4⟩ := R2.unanchor h0 hb0 hst
  exact ⟨_, _, rfl, q1 _ H2 B2 ((U1.setOwn i (s := .own []) ⟨p, [], rfl, U3, U2, .nil⟩ h0 U4).set j rp) L2'⟩
section
variable {X : Cx} {s : Option StC} {E : St → XK} {a b e : Expr} {f : M D} {pos p1 p2 p3 : Pos}
theorem sparO (i j : Nat) {x y : Str} {px py pt : Pos} {kt k2 pt2} (hc : X.calm = true) (hN : X.N.Nodup) (hb : DE (cx X s E) X b f) (hw : swappedStores [.Tuple [.Name x px, .Name y py] kt pt] (.Tuple [.List [] p1, b] k2 pt2) X.env = pure (some [x, y]) := by rfl) (hi : X.N[i]? = some x := by rfl) (hj : X.N[j]? = some y := by rfl) (hij : i ≠ j := by decide)
    (hx : X.env.scope.names.lookup x = some .local := by rfl) (hy : X.env.scope.names.lookup y = some .local := by rfl) (hs : swapsWithSole [.Tuple [.Name x px, .Name y py] kt pt] (.Tuple [.List [] p1, b] k2 pt2) pos.line X.env = pure false := by rfl)
    (he : starEach [.List [] p1, b] X.env = (false, eval (.List [] p1) X.env) :: starEach [b] X.env := by rfl) (he2 : starEach [b] X.env = [(false, eval b X.env)] := by rfl) :
    DS (cx X s E) X (.Assign [.Tuple [.Name x px, .Name y py] kt pt] (.Tuple [.List [] p1, b] k2 pt2) pos) (parO i j f) := dS (ps_par hc hN hi hj hij hx hy (pa_cons (pe_lst pa_nil) (pa_cons hb pa_nil he2) he) hw hs) (satS_parO sE)
end

/-! ### which error it is -/
theorem errM_2 (a : Addr) (ct : Int) : tells (errM a false true false false false ⟨[.raw (.ref a), .no, .no, .no], ct⟩) "large" := by
  unfold errM seqM asgM lstM guardL bindM
  rw [errM_args _ _ _ _ _ _ _ rfl]
  exact ⟨_, rfl, rfl⟩
theorem errM_3 (a : Addr) (ct : Int) : tells (errM a false false true false false ⟨[.raw (.ref a), .no, .no, .no], ct⟩) "missing" := by
  unfold errM seqM asgM lstM guardL bindM
  rw [errM_args _ _ _ _ _ _ _ rfl]
  exact ⟨_, rfl, rfl⟩
theorem errM_4 (a : Addr) (ct : Int) : tells (errM a false false false true false ⟨[.raw (.ref a), .no, .no, .no], ct⟩) "paper" := by
  unfold errM seqM asgM lstM guardL bindM
  rw [errM_args _ _ _ _ _ _ _ rfl]
  exact ⟨_, rfl, rfl⟩
theorem errM_5 (a : Addr) (ct : Int) : tells (errM a false false false false true ⟨[.raw (.ref a), .no, .no, .no], ct⟩) "form" := by
  unfold errM seqM asgM lstM guardL bindM
  rw [errM_args _ _ _ _ _ _ _ rfl]
  exact ⟨_, rfl, rfl⟩
section
variable {P : Program} {w : World} {K : PySem.W.Frag} {mg : Str → Option Value} {base : Heap}
theorem fnE_err {k : Nat} {x qual : Str} {st : Stmt} {f : Addr} {fd : FuncData} {N : List Str} {cl : Addr} {z : Str} {b1 b2 b3 b4 b5 : Bool} (F : Fun K x qual st f fd) (S : FnScope N ["e"] (defScope st)) (hN : N.length = 4) (ht : ∀ a ct, tells (errM a b1 b2 b3 b4 b5 ⟨[.raw (.ref a), .no, .no, .no], ct⟩) z)
    (hbody : ∀ (cdv : Value) (A : Around) (outer : List Env) (s : Shared) (H : Hp) (a : Addr) (oe : Obj), L2H.HotC (L2H.cxH (L2N.CX P w) P w K mg base N qual (defScope st) f cdv A outer s H L2.E0 (a, oe)) → (A.deeper (envOfC qual (defScope st) s.heap.objs.size f cdv)).units + 65 < cLine → Zc (.ref cl) none oe → (∃ vs, oe.data = .fields vs) →
      DSs (cx (L2H.cxH (L2N.CX P w) P w K mg base N qual (defScope st) f cdv A outer s H L2.E0 (a, oe)) none fun _ => L2.E0) (L2H.cxH (L2N.CX P w) P w K mg base N qual (defScope st) f cdv A outer s H L2.E0 (a, oe)) (defBody st) (errM a b1 b2 b3 b4 b5)) : FnE P w K mg base (k + 1) f fd cl z := by
  refine fnE_of F S fun cdv A outer s H Q a oe vs hr hot hz hd hq => ⟨_, hbody cdv A outer s H a oe ⟨(a, oe), hot, List.mem_singleton.mpr rfl⟩ (by have := hr.un; omega) hz.zc ⟨vs, hd⟩, ?_⟩
  obtain ⟨g, eg, hl⟩ := ht a 0
  refine ⟨⟨H, fun _ => none⟩, fun _ => none, ⟨[.raw (.ref a), .no, .no, .no], 0⟩, ?_, ?_⟩
  · refine ⟨?_, fun i sl e => ?_, fun i j p _ hi => ?_, fun _ _ q => (nomatch q), fun _ _ q => (nomatch q), fun _ _ q => (nomatch q), fun i p hi => ?_, fun _ _ q _ => q, fun c hc => (nomatch hc)⟩
    · unfold L2.start
      simp [hN]
    · match i, e with
      | 0, e => cases e; exact rfl
      | 1, e => cases e; trivial
      | 2, e => cases e; trivial
      | 3, e => cases e; trivial
      | i + 4, e => simp at e
    all_goals
      obtain ⟨sl, e, h⟩ := hi
      match i, e with
      | 0, e => cases e; cases h
      | 1, e => cases e; cases h
      | 2, e => cases e; cases h
      | 3, e => cases e; cases h
      | i + 4, e => simp at e
  · rw [eg]
    intro v σ' H' B' R _ rp
    cases rp
    exact hq H' fun a o q => R.keep a o q fun c hc => nomatch hc
section
variable {X : Cx} {s : Option StC} {E : St → XK} {pos p p1 p2 p3 : Pos}
theorem gisE {x : Str} {a cl c : Addr} {oe : Obj} {b : Bool} (hp : (a, oe) ∈ X.pn) (C : ExcC X.K cl) (hz : Zc (.ref cl) none oe) (hf : ∃ vs, oe.data = .fields vs) (hk : PySem.W.kitOne X.K (.ref cl) (.ref c) = some b) (hm : X.mg "isinstance" = none) (hc : X.mg x = some (.ref c)) (hg : Gl X "isinstance" := by rfl) (hg2 : Gl X x := by rfl) (hd : (x == ("__debug__" : Str)) = false := by decide)
    (hv : PE X (.Name "e" p1) (tVar 0) := by exact pv 0) (he : starEach [.Name "e" p1, .Name x p2] X.env = (false, eval (.Name "e" p1) X.env) :: starEach [.Name x p2] X.env := by rfl) (he2 : starEach [.Name x p2] X.env = [(false, eval (.Name x p2) X.env)] := by rfl) (hpl : (backTo p3 (starEach [.Name x p2] X.env)).any (·.1) = false := by rfl) :
    DE (cx X s E) X (.Call (.Name "isinstance" p) [.Name "e" p1, .Name x p2] [] p3) (isM 0 a b) := dE (pe_callB (call_isP hp C hz hf) hg hm PyProof.Rows.boot_isinstance (pa_cons hv (pa_cons (pe_glob (v := .ref c) hg2 hc rfl hd) pa_nil he2) he) (by decide) (by decide) he hpl) (sat_isE (C := cx X s E) hk)
/-- name = [..] over a range, an exception being handled -/
theorem slcH (i : Nat) {y : Str} {py spos : Pos} {elt tg a : Expr} {ifs : List Expr} {scope : Scope} {ts : List Nat} {fa : M (List D)} {kk : D → M Unit} {cc : M Bool} {ee : M D} {m : M Fl} (own : List (Str × Nat)) (hm : LcSet (cx X s E) i (lcM (srcA rng1 fa) kk cc ee (own.map (·.2))) m) (hc : L2H.HotC X) (hN : X.N.Nodup) (ok : BlkOk X.N X.env.scope scope own)
    (hsw : swapsWith (.ListComp elt [⟨tg, .Call (.Name "range" p1) [a] [] p2, ifs, 0⟩] scope pos) (some (.Name y py)) spos.line X.env = pure true) (hmr : X.mg "range" = none) (ha : DA (cx X s E) X [a] fa)
    (hg : ∀ (s0 : Shared) (H : Hp) (C : Addr) (cl : List (Str × Addr)) (fp : List Addr), DG (cx X s fun _ => L2.E0) (blkH X s0 H scope (compEnvC scope cl C X.env) fp) tg ts kk) (ht : ∀ (s0 : Shared) (H : Hp) (C : Addr) (cl : List (Str × Addr)) (fp : List Addr), DTs (cx X s fun _ => L2.E0) (blkH X s0 H scope (compEnvC scope cl C X.env) fp) ifs cc)
    (he : ∀ (s0 : Shared) (H : Hp) (C : Addr) (cl : List (Str × Addr)) (fp : List Addr), DE (cx X s fun _ => L2.E0) (blkH X s0 H scope (compEnvC scope cl C X.env) fp) elt ee) (hv : ∀ j, j ∈ ts → j ∈ own.map (·.2) := by decide) (hy : X.N[i]? = some y := by rfl) (hyl : X.env.scope.names.lookup y = some .local := by rfl) (hgr : Gl X "range" := by rfl) (hs1 : starEach [a] X.env = [(false, eval a X.env)] := by rfl) :
    DS (cx X s E) X (.Assign [.Name y py] (.ListComp elt [⟨tg, .Call (.Name "range" p1) [a] [] p2, ifs, 0⟩] scope pos) spos) m := dS (ps_setLcH hc hN hy hyl hsw (L2H.pi_range1H hgr hmr ha hs1) ok hg ht he (by intro _; rfl)) (hm.sat (satF_lc (C := cx X s E) (satI_rng1 sA) sG sT sE hv))
end
end
end DL

set_option Elab.async false
set_option linter.all false
set_option maxRecDepth 100000
set_option maxHeartbeats 4000000
/-! DL19: defs of the module by their mirrors. -/
namespace DL
open PySem PySem.Spec L2 StX
open PyProof.Rows hiding St

theorem u64 {A : Around} (h : A.units + 65 < cLine) : A.units + 64 < cLine := by omega
/-- n arguments, N places -/
def fn (n N : Nat) (m : List Int → M Fl) : FnM := fun ns ss ct => if ss.length = n then runF N m ns ss ct else .bad
theorem fn_ok {n N : Nat} {m : List Int → M Fl} : ∀ ns ss ct, fn n N m ns ss ct ≠ .bad → ss.length = n ∧ fn n N m ns ss ct = runF N m ns ss ct := fun ns ss ct h => by
  unfold fn at h ⊢
  by_cases e : ss.length = n
  · rw [if_pos e]; exact ⟨e, rfl⟩
  · rw [if_neg e] at h; exact (h rfl).elim
/-- a def of the module: its object, its name -/
structure DefD (K : PySem.W.Frag) (mg : Str → Option Value) (x : Str) (st : Stmt) (ps : List Str) : Prop where
  ex : ∃ (f : Addr) (fd : FuncData), Fun K x x st f fd ∧ mg x = some (.ref f) ∧ PySem.W.keepIn K (.ref f) = true ∧ Binds K fd ps []
section
variable {P : Program} {w : World} {K : PySem.W.Frag} {mg : Str → Option Value} {base : Heap}
theorem DefD.cal {x : Str} {st : Stmt} {ps N : List Str} {k n : Nat} {m : List Int → M Fl} (D : DefD K mg x st ps) (S : FnScope N ps (defScope st)) (hn : ps.length = n)
    (hbody : ∀ (f : Addr) (stc : Option StC) (cdv : Value) (A : Around) (outer : List Env) (s : Shared) (H : Hp) (E : XK), Room k (A.deeper (envOfC x (defScope st) s.heap.objs.size f cdv)) → (A.deeper (envOfC x (defScope st) s.heap.objs.size f cdv)).guards = some [] → (A.deeper (envOfC x (defScope st) s.heap.objs.size f cdv)).units + 65 < cLine →
      DSs (cx (cxOf (L2N.CX P w) P w K mg base N x (defScope st) f cdv A outer s H E) stc fun _ => E) (cxOf (L2N.CX P w) P w K mg base N x (defScope st) f cdv A outer s H E) (defBody st) (m (nsOf stc))) : CalD P w K mg base x (k + 1) (fn n N.length m) := by
  obtain ⟨f, fd, F, g, kp, b⟩ := D.ex
  subst hn
  exact ⟨f, fd, ps, fnD F S fn_ok fun stc cdv A outer s H E hr hgu => hbody f stc cdv A outer s H E hr hgu (by have := hr.un; omega), g, kp, b⟩
/-- a def that calls itself: by levels -/
theorem DefD.rec_ {x : Str} {st : Stmt} {ps N : List Str} {k n : Nat} {m : FnM → List Int → M Fl} {h : Nat → FnM} (D : DefD K mg x st ps) (S : FnScope N ps (defScope st)) (hn : ps.length = n) (h0 : h 0 = fun _ _ _ => .bad) (hs : ∀ j, h (j + 1) = fn n N.length (m (h j)))
    (hbody : ∀ (j : Nat), CalD P w K mg base x (k + j) (h j) → ∀ (f : Addr) (stc : Option StC) (cdv : Value) (A : Around) (outer : List Env) (s : Shared) (H : Hp) (E : XK), Room (k + j) (A.deeper (envOfC x (defScope st) s.heap.objs.size f cdv)) → (A.deeper (envOfC x (defScope st) s.heap.objs.size f cdv)).guards = some [] → (A.deeper (envOfC x (defScope st) s.heap.objs.size f cdv)).units + 65 < cLine →
      DSs (cx (cxOf (L2N.CX P w) P w K mg base N x (defScope st) f cdv A outer s H E) stc fun _ => E) (cxOf (L2N.CX P w) P w K mg base N x (defScope st) f cdv A outer s H E) (defBody st) (m (h j) (nsOf stc))) : ∀ j, CalD P w K mg base x (k + j) (h j)
  | 0 => by
    obtain ⟨f, fd, F, g, kp, b⟩ := D.ex
    have no : ∀ vs H Q E, ¬ spD K mg (h 0) vs H Q E := fun vs H Q E hsp => by
      rw [h0] at hsp
      obtain ⟨st, B, ss, ct, _, _, _, q⟩ := hsp
      exact q
    exact ⟨f, fd, ps, ⟨fun vs H Q E hsp => (no vs H Q E hsp).elim, fun A outer s H args us vs Q E _ _ _ _ _ hsp => (no vs H Q E hsp).elim⟩, g, kp, b⟩
  | j + 1 => by
    rw [hs]
    exact D.cal S hn fun f stc cdv A outer s H E hr hgu hu => hbody j (DefD.rec_ D S hn h0 hs hbody j) f stc cdv A outer s H E hr hgu hu
end
/-- a module's number -/
theorem gglobI {X : Cx} {s : Option StC} {E : St → XK} {x : Str} {i : Int} {pos : Pos} (h : ∃ t, X.mg x = some (.int i t)) (hg : Gl X x := by rfl) (hd : (x == ("__debug__" : Str)) = false := by decide) : DE (cx X s E) X (.Name x pos) (pureM (.int i)) := by
  obtain ⟨t, h⟩ := h
  exact gglob (v := .int i) h ⟨t, rfl⟩ (fun _ => .int i) hg hd
theorem exB {X : Cx} {E : XK} (tk : L2N.Takes X (fun cls d _ H => E cls d H)) : ∀ σ, PassesAt (L2N.CX X.prog X.w) X σ ((fun _ => E : St → XK) σ) := fun σ => L2N.passAt tk σ
theorem exT {X : Cx} {W : WX} (tk : L2N.Takes X W) : ∀ σ, PassesAt (L2N.CX X.prog X.w) X σ (WE W σ) := fun σ => L2N.passAt tk σ
end DL

set_option Elab.async false
set_option linter.all false
set_option maxRecDepth 100000
set_option maxHeartbeats 4000000
/-! DL20: the law's stream: its cell read and written; a list whose items are known; loops by an invariant. -/
namespace DL
open PySem PySem.Spec L2 StX
open PyProof.Rows hiding St

/-! ### the stream's cell -/
def st1M (i : Nat) : M D := fun g => match g.sl[i]? with
  | some .sta => .ok (.int g.ct) g
  | _ => .bad
def st0M (i : Nat) (ns : List Int) : M D := fun g => match g.sl[i]? with
  | some .sta => .ok (.list (ns.map PyData.int)) g
  | _ => .bad
def stSet (i : Nat) (f : M D) : M Fl := bindM f fun d g => match g.sl[i]?, oneInt d with
  | some .sta, some z => .ok .next { g with ct := z }
  | _, _ => .bad
section
variable {C : Ctx}
theorem sat_st1 {i : Nat} : Sat C (tOp (rIx C.K) (tVar i) (tC (.int 1))) (st1M i) := by
  intro N σ H B g Q R q
  unfold st1M at q
  split at q
  · rename_i e
    obtain ⟨c, hc, e1⟩ := R.slots i _ e
    obtain ⟨h1, h2, h3, h4⟩ := R.st c hc
    exact ⟨_, getD_some e1, .inl ⟨c.a, _, 1, .int g.ct, rfl, rfl, .inl (.inl h2), rfl, q _ H B R (.refl _) (.int _)⟩⟩
  · exact q.elim
theorem sat_st0 {i : Nat} : Sat C (tOp (rIx C.K) (tVar i) (tC (.int 0))) (st0M i C.ns) := by
  intro N σ H B g Q R q
  unfold st0M at q
  split at q
  · rename_i e
    obtain ⟨c, hc, e1⟩ := R.slots i _ e
    obtain ⟨h1, h2, h3, h4⟩ := R.st c hc
    have en : C.ns = c.ns := by show nsOf C.st = _; rw [hc]; rfl
    rw [en] at q
    exact ⟨_, getD_some e1, .inl ⟨c.a, _, 0, .ref c.na, rfl, rfl, .inl (.inl h2), rfl, q _ H B R (.refl _) (.lst h3 (Rps.ints _))⟩⟩
  · exact q.elim
theorem satS_stSet {i : Nat} {te : TE} {f : M D} (h : Sat C te f) : SatS C (tAsg te (gSub (tVar i) (tC (.int 1)) rSetL)) (stSet i f) := by
  intro N σ H B g D R q
  refine h.toS R q fun d g' v H1 B1 _ R1 L1 rp q1 => ?_
  have q2 : FinS C N B (match g'.sl[i]?, oneInt d with
    | some .sta, some z => .ok .next { g' with ct := z }
    | _, _ => .bad) D := q1
  clear q1
  cases e : g'.sl[i]? with
  | none => rw [e] at q2; exact q2.elim
  | some sl =>
  cases ez : oneInt d with
  | none => rw [e, ez] at q2; cases sl <;> exact q2.elim
  | some z =>
  rw [e, ez] at q2
  cases sl with
  | sta =>
    obtain rfl := oneInt_some ez
    cases rp
    obtain ⟨c, hc, e1⟩ := R1.slots i _ e
    obtain ⟨h1, h2, h3, h4⟩ := R1.st c hc
    refine ⟨_, getD_some e1, c.a, _, 1, 1, rfl, rfl, h2, rfl, ?_⟩
    refine q2 σ _ B1 (R1.post (ct := z) ⟨.refl _, fun _ _ q => .inl q, fun a o q => ?_, fun a o q hne => ?_, fun c' hc' => ?_⟩) L1
    · rw [upd_ne fun ea => by rw [ea, h1] at q; cases q]; exact R1.sub _ _ q
    · rw [upd_ne (hne c hc)]; exact q
    · rw [hc] at hc'; cases hc'; exact upd_same
  | _ => exact q2.elim
end
section
variable {X : Cx} {s : Option StC} {E : St → XK} {e : Expr} {f : M D} {pos p1 p2 p3 : Pos}
theorem gst1 (i : Nat) {x : Str} {j} (hv : PE X (.Name x p1) (tVar i) := by exact pv _) (hs : PlainIx (.Constant (.int 1) j p2) := by intro _ _; rfl) : DE (cx X s E) X (.Subscript (.Name x p1) (.Constant (.int 1) j p2) pos) (st1M i) := dE (pe_ix ix_seq hv pe_int hs) sat_st1
theorem gst0 (i : Nat) {x : Str} {j} (hv : PE X (.Name x p1) (tVar i) := by exact pv _) (hs : PlainIx (.Constant (.int 0) j p2) := by intro _ _; rfl) : DE (cx X s E) X (.Subscript (.Name x p1) (.Constant (.int 0) j p2) pos) (st0M i (nsOf s)) := dE (pe_ix ix_seq hv pe_int hs) (sat_st0 (C := cx X s E))
theorem sst (i : Nat) {x : Str} {j} (he : DE (cx X s E) X e f) (hv : PE X (.Name x p1) (tVar i) := by exact pv _) (hs : swapsWithSole [.Subscript (.Name x p1) (.Constant (.int 1) j p2) p3] e pos.line X.env = pure false := by rfl) (hw : swappedStores [.Subscript (.Name x p1) (.Constant (.int 1) j p2) p3] e X.env = pure none := by rfl)
    (h1 : (assignEach [.Subscript (.Name x p1) (.Constant (.int 1) j p2) p3] X.env).map (·.2) = [assign (.Subscript (.Name x p1) (.Constant (.int 1) j p2) p3) X.env] := by rfl) : DS (cx X s E) X (.Assign [.Subscript (.Name x p1) (.Constant (.int 1) j p2) p3] e pos) (stSet i f) := dS (ps_asg he (pg_sub hv pe_int set_list) hs hw h1) (satS_stSet sE)
end

/-! ### a fresh list whose items are known -/
def tFresh (vs : List V) : TE := fun σ H Q => ∀ q, H q = none → Q (.ref q) (upd H q (.lst vs))
def constF (ds : List D) : M (List D) := pureM ds
theorem satF_fresh {C : Ctx} {vs : List V} {ds : List D} (h : ∀ B, Rps C.K B vs ds) : SatF C (tFresh vs) (constF ds) := fun N σ H B g Q R q p hp => q p vs _ B (R.newl hp) (.refl _) (R.sub_none hp) upd_same (h B) (R.fresh hp) fun j hj => R.free_own hp j hj

/-! ### loops -/
theorem forM_inv {k : D → M Unit} {body : M Fl} (I : List D → Sg → Prop) (J : Sg → Prop)
    (step : ∀ x r g, I (x :: r) g → ∃ fl g', goG (k x) body g = .ok fl g' ∧ ((fl = .next ∨ fl = .cont) ∧ I r g' ∨ fl = .brk ∧ J g')) :
    ∀ xs g, I xs g → ∃ g', forM xs k body g = .ok .next g' ∧ (I [] g' ∨ J g')
  | [], g, h => ⟨g, rfl, .inl h⟩
  | x :: r, g, h => by
    obtain ⟨fl, g', e, z⟩ := step x r g h
    have e2 : forM (x :: r) k body g = (goG (k x) body g).bind fun f => match f with
      | .next => forM r k body
      | .cont => forM r k body
      | .brk => nextM
      | .ret d => pureM (.ret d) := by
      show goG (k x) (bindM body _) g = _
      unfold goG
      cases k x g <;> rfl
    rw [e2, e]
    rcases z with ⟨rfl | rfl, hi⟩ | ⟨rfl, hj⟩
    · exact forM_inv I J step r g' hi
    · exact forM_inv I J step r g' hi
    · exact ⟨g', rfl, .inr hj⟩
end DL

set_option Elab.async false
set_option linter.all false
set_option maxRecDepth 100000
set_option maxHeartbeats 4000000
/-! DL21: the def that makes the stream of a script; the law itself. -/
namespace DL
open PySem PySem.Spec L2 StX
open PyProof.Rows hiding St

/-- what the stream's def promises: a list of ints, not empty, at most 4000 -/
def spStream (K : PySem.W.Frag) : Sp := fun vs H Q _ => ∃ (a : Addr) (ns : List Int), vs = [.ref a] ∧ SqL K H a (ns.map V.int) ∧ ns.length ≤ 63 ∧
  ∀ v H' B' (ms : List Int), ms ≠ [] → ms.length ≤ 4000 → Post none H (fun _ => none) H' B' 0 → Rp K B' v (.list (ms.map PyData.int)) → Q v H'
structure StrD (P : Program) (w : World) (K : PySem.W.Frag) (mg : Str → Option Value) (base : Heap) (k : Nat) : Prop where
  ex : ∃ (f : Addr) (fd : FuncData), FnG P w K mg base k f fd ["script"] (spStream K) ∧ mg "_law_stream" = some (.ref f) ∧ PySem.W.keepIn K (.ref f) = true ∧ Binds K fd ["script"] []
/-- the mirror of the stream's body, the script's first 63 numbers known -/
def streamM (cell rest : M Fl) (ds : List D) : M Fl := seqM (forS (srcM (lstM (constF ds))) (putM 2) cell) rest
/-- .. makes such a list of every script -/
def StreamOk (cell rest : M Fl) : Prop := ∀ ns : List Int, ns.length ≤ 63 → ∃ (ms : List Int) (g : Sg), streamM cell rest (ns.map PyData.int) ⟨[.no, .own [], .no, .no, .no, .no], 0⟩ = .ok (.ret (.list (ms.map PyData.int))) g ∧ ms ≠ [] ∧ ms.length ≤ 4000
theorem tFor_imp {wi wi' : TI} {g : TG} {tb : TS} {D : Ends} {σ : St} {H : Hp} (h : ∀ R, wi' σ H R → wi σ H R) (q : tFor wi' g tb D σ H) : tFor wi g tb D σ H := h _ q
section
variable {P : Program} {w : World} {K : PySem.W.Frag} {mg : Str → Option Value} {base : Heap}
theorem stream_ok {k : Nat} {st : Stmt} {N : List Str} {cell rest : M Fl} (Df : DefD K mg "_law_stream" st ["script"]) (S : FnScope N ["script"] (defScope st)) (hN : N.length = 6) (ok : StreamOk cell rest)
    (hbody : ∀ (f : Addr) (cdv : Value) (A : Around) (outer : List Env) (s : Shared) (H : Hp) (E : XK), Room k (A.deeper (envOfC "_law_stream" (defScope st) s.heap.objs.size f cdv)) → (A.deeper (envOfC "_law_stream" (defScope st) s.heap.objs.size f cdv)).guards = some [] → (A.deeper (envOfC "_law_stream" (defScope st) s.heap.objs.size f cdv)).units + 65 < cLine →
      ∀ (C : Ctx), C = (cx (cxOf (L2N.CX P w) P w K mg base N "_law_stream" (defScope st) f cdv A outer s H E) none fun _ => E) →
      PSs (cxOf (L2N.CX P w) P w K mg base N "_law_stream" (defScope st) f cdv A outer s H E) (defBody st) (tSeq (tAsg (tLst tNil) (gName 1)) (tSeq (tFor (iAny K (tSl (rSlL K) (tVar 0) tNoPart (tPart (tC (.int 63))))) (gName 2) (toS C cell)) (toS C rest)))) : StrD P w K mg base (k + 1) := by
  obtain ⟨f, fd, F, g, kp, b⟩ := Df.ex
  refine ⟨f, fd, fn_ofG F S (fun vs H Q E hs => ?_) (fun cdv A outer s H vs Q E hr hgu hs => ⟨_, hbody f cdv A outer s H E hr hgu (by have := hr.un; omega) _ rfl, ?_⟩), g, kp, b⟩
  · obtain ⟨a, ns, rfl, _⟩ := hs
    rfl
  · obtain ⟨a, ns, rfl, hS, hlen, q⟩ := hs
    generalize hC : (cx (cxOf (L2N.CX P w) P w K mg base N "_law_stream" (defScope st) f cdv A outer s H E) none fun _ => E) = C
    have hCK : C.K = K := by
      rw [← hC]
      rfl
    have hCs : C.st = none := by rw [← hC]
    refine ⟨Nat.zero_le _, fun p hp => ?_⟩
    have hl63 : (ns.take 63).length ≤ 63 := by rw [List.length_take]; omega
    obtain ⟨ms, gE, er, h0, h1⟩ := ok (ns.take 63) hl63
    -- the state behind numbers = []
    have R0 : Rep C ⟨H, fun _ => none⟩ (start N [V.ref a]) (upd H p (.lst [])) (fun _ => none) ⟨[.no, .no, .no, .no, .no, .no], 0⟩ := by
      refine ⟨?_, fun i sl e => ?_, fun i j q _ hi => ?_, fun _ _ q => (nomatch q), fun _ _ q => (nomatch q), fun _ _ q => (nomatch q), fun i q hi => ?_, fun b o q _ => by rw [upd_ne (ne_of_none q hp)]; exact q, fun c hc => by rw [hCs] at hc; cases hc⟩
      · unfold L2.start
        simp [hN]
      · match i, e with
        | 0, e => cases e; trivial
        | 1, e => cases e; trivial
        | 2, e => cases e; trivial
        | 3, e => cases e; trivial
        | 4, e => cases e; trivial
        | 5, e => cases e; trivial
        | i + 6, e => simp at e
      all_goals
        obtain ⟨sl, e, h⟩ := hi
        match i, e with
        | 0, e => cases e; cases h
        | 1, e => cases e; cases h
        | 2, e => cases e; cases h
        | 3, e => cases e; cases h
        | 4, e => cases e; cases h
        | 5, e => cases e; cases h
        | i + 6, e => simp at e
    have R1 := R0.setOwn 1 (s := .own []) (p := p) ⟨p, [], rfl, rfl, upd_same, .nil⟩ hp fun j hj => by
      obtain ⟨sl, e, h⟩ := hj
      match j, e with
      | 0, e => cases e; cases h
      | 1, e => cases e; cases h
      | 2, e => cases e; cases h
      | 3, e => cases e; cases h
      | 4, e => cases e; cases h
      | 5, e => cases e; cases h
      | j + 6, e => simp at e
    have sat : SatS C (tSeq (tFor (iAny C.K (tFresh ((ns.take 63).map V.int))) (gName 2) (toS C cell)) (toS C rest)) (streamM cell rest ((ns.take 63).map PyData.int)) :=
      satS_seq (satS_for (satI_any (satF_fresh fun _ => Rps.ints _).sat) satG_name sS) sS
    have red := sat ⟨H, fun _ => none⟩ _ _ _ _ { nx := fun _ H' => Q .non H', rt := Q } R1 (by
      rw [show ({ sl := ([.no, .no, .no, .no, .no, .no] : List Slot).set 1 (.own []), ct := 0 } : Sg) = ⟨[.no, .own [], .no, .no, .no, .no], 0⟩ from rfl, er]
      intro v σ' H' B' R' L' rp
      refine q v H' B' ms h0 h1 ⟨fun _ _ q => (nomatch q), R'.new, R'.sub, fun b o hb hne => R'.keep b o hb fun c hc => (by rw [hCs] at hc; cases hc), fun c hc => (nomatch hc)⟩ ?_
      rw [← hCK]
      exact rp)
    change tFor (iAny K (tSl (rSlL K) (tVar 0) tNoPart (tPart (tC (.int 63))))) (gName 2) (toS C cell) _ _ _
    refine tFor_imp (fun R h => ?_) red
    -- the slice of the script is that list
    rw [hCK] at h
    have e0 : ((start N [V.ref a]).set 1 (some (.ref p)))[0]? = some (some (V.ref a)) := by
      match N, hN with
      | [_, _, _, _, _, _], _ => rfl
    have hS1 : SqL K (upd H p (.lst [])) a (ns.map V.int) := Le.sqL (fun b o q => by rw [upd_ne (ne_of_none q hp)]; exact q) hS
    refine ⟨.ref a, e0, 63, rfl, a, _, rfl, hS1, fun q hq => ?_⟩
    have ec : cutV (ns.map V.int) none (some 63) = (ns.take 63).map V.int := by
      unfold cutV
      rw [HT.sIx_none, show HT.sIx (ns.map V.int).length (ns.map V.int).length (some (63 : Int)) = min 63 (ns.map V.int).length from HT.sIx_nat _ _ 63, List.drop_zero, Nat.sub_zero, List.map_take]
      rw [List.length_map]
      by_cases hz : ns.length ≤ 63
      · rw [Nat.min_eq_right hz, List.take_of_length_le (by simp), List.take_of_length_le (by simp; omega)]
      · rw [Nat.min_eq_left (by omega)]
    rw [ec]
    exact h q hq
end
end DL

set_option Elab.async false
set_option linter.all false
set_option maxRecDepth 100000
set_option maxHeartbeats 4000000
/-! DL22: the law itself, called; its head. -/
namespace DL
open PySem PySem.Spec L2 StX
open PyProof.Rows hiding St

theorem lawG {P : Program} {w : World} {K : PySem.W.Frag} {mg mb : Str → Option Value} {k : Nat} {fa a : Addr} {fd : FuncData} {x : Str} {sp : Sp} {s₁ : Shared} {vs : List Value} {ns : List Int}
    (KX : K.In s₁.heap) (hns : s₁.heap.Ns mainGlobals mg) (hb : s₁.heap.Ns builtinsNs mb) (hbb : ∀ x : Str, x ≠ "__name__" → mb x = bootBuiltins x) (hlim : s₁.heap.NoLimit) (hg : s₁.gens = #[])
    (ha : s₁.heap.get? a = some { cls := .type "list", data := .seq vs.toArray }) (hi : IntsAre vs ns) (hl : ns.length ≤ sizeLine) (hr : Room k callerA)
    (F : ∀ base : Heap, K.In base → base.Ns mainGlobals mg → FnG P w K mg base k fa fd [x] sp) (hbind : ∀ (s : Shared) (u : Value), BindsTo s fd ⟨[u], []⟩ [(x, u)])
    (hsp : ∀ H : Hp, Only H → SqL K H a (ns.map V.int) → sp [.ref a] H (fun v _ => v = .bl true) fun _ _ _ => False)
    : codeAny (model P w) callerA (.call (.ref fa) ⟨[.ref a], []⟩) (fun r s' => r = .ok (.ret (.bool true)) ∧ OldK s₁.heap s'.heap ∧ s'.os = s₁.os ∧ AllBare s'.gens) s₁ := by
  have rv := vals_ints hi
  have lenV := hi.length
  -- from an abstract heap in which nothing but the script may be tracked
  have core : ∀ H : Hp, Only H → SqL K H a (ns.map V.int) → HOk P w H s₁.heap → (∀ b, H b ≠ none → b = a) → (H a ≠ none → K.lookup a = none) →
      codeAny (model P w) callerA (.call (.ref fa) ⟨[.ref a], []⟩) (fun r s' => r = .ok (.ret (.bool true)) ∧ OldK s₁.heap s'.heap ∧ s'.os = s₁.os ∧ AllBare s'.gens) s₁ := by
    intro H hO hS hok hA hK
    have base_of : ∀ {b : Addr} {o : Obj}, s₁.heap.get? b = some o → H b = none → (hidT s₁.heap H).get? b = some o := fun e n => hidT_get e n
    have noA : ∀ {b : Addr} {o : Obj} {es : Array DictEntry} {ep : Nat}, s₁.heap.get? b = some o → o.data = .dict es ep → H b = none := fun {b o es ep} e d => by
      cases q : H b with
      | none => rfl
      | some u =>
        have e' : b = a := hA b (by rw [q]; simp)
        subst e'
        rw [ha] at e; cases e
        have d' : Data.seq vs.toArray _ = Data.dict es ep := d
        cases d'
    have nsK : ∀ {b : Addr} {m : Str → Option Value}, s₁.heap.Ns b m → (hidT s₁.heap H).Ns b m := fun {b m} ⟨o, es, ep, e, d, r⟩ => ⟨o, es, ep, base_of e (noA e d), d, r⟩
    have hKb : K.In (hidT s₁.heap H) := fun b o e => base_of (KX b o e) (by
      cases q : H b with
      | none => rfl
      | some u =>
        have e' : b = a := hA b (by rw [q]; simp)
        subst e'
        rw [hK (by rw [q]; simp)] at e; cases e)
    have hM : Mod K mg (hidT s₁.heap H) := ⟨hKb, nsK hns, ⟨mb, nsK hb, hbb⟩, let ⟨mc, h1, h2⟩ := hlim; ⟨mc, nsK h1, h2⟩⟩
    have e0 : Env0 P w K mg (hidT s₁.heap H) callerA [] s₁ H := ⟨rfl, hM, fun b o e => of_hidT e, Nat.le_of_eq (hidT_size _ _), trivial, fun b hb => absurd (show b ∈ ([] : List Addr) from hb) (by simp), hok, .of_eq hg⟩
    refine codeAny_mono ((F _ hKb (nsK hns)).run callerA [] s₁ H ⟨[.ref a], []⟩ [.ref a] [.ref a] _ _ hr rfl e0 (hbind s₁ (.ref a)) (.cons rfl .nil) (hsp H hO hS)) fun r s' h => ?_
    cases r with
    | error e => obtain ⟨_, _, _, _, _, _, _, _, _, _, _, _, z⟩ := h; exact z.elim
    | ok fl =>
      cases fl with
      | next => exact False.elim h
      | brk => exact False.elim h
      | cont => exact False.elim h
      | ret u =>
        obtain ⟨v, H', os, bare, un, hok', r', q⟩ := h
        have q' : v = .bl true := q
        subst q'
        obtain rfl : u = Value.bool true := r'
        refine ⟨rfl, OldK.of_keep fun b o e => ?_, os, bare⟩
        cases q : H b with
        | none => exact un.keep b o e q (by intro z; exact absurd (show b ∈ ([] : List Addr) from z) (by simp)) (by simp)
        | some u =>
          rcases hO b with z | ⟨ob, xs, z⟩
          · rw [q] at z; cases z
          · have z2 := un.frzs b ob _ z
            obtain ⟨e1, _⟩ := hok b _ z
            obtain ⟨e2, _⟩ := hok' b _ z2
            rw [e] at e1; cases e1
            exact e2
  cases hk : K.lookup a with
  | some o =>
    -- the script is one of the module's own objects
    have e := KX a o hk
    rw [ha] at e
    cases e
    refine core (fun _ => none) (fun _ => .inl rfl) (.inr ⟨_, vs.toArray, _, hk, rfl, rfl, rfl, by rw [List.size_toArray, lenV]; exact hl, by simpa using rv⟩) (fun b u z => by have z' : (none : Option HO) = some u := z; cases z') (fun b z => absurd rfl z) fun z => absurd rfl z
  | none =>
    refine core (fun b => if b = a then some (.frz { cls := .type "list", data := .seq vs.toArray } (.lst (ns.map V.int))) else none) (fun b => ?_) (.inl (.inr ⟨{ cls := .type "list", data := .seq vs.toArray }, if_pos rfl⟩)) (fun b u z => ?_) (fun b z => ?_) fun _ => hk
    · by_cases hb : b = a
      · exact .inr ⟨_, _, if_pos hb⟩
      · exact .inl (if_neg hb)
    · by_cases hb : b = a
      · have z' := (if_pos hb).symm.trans z
        cases z'
        subst hb
        exact ⟨ha, by rw [List.length_map]; exact hl, vs, _, rv, ha⟩
      · have z' := (if_neg hb).symm.trans z
        cases z'
    · by_cases hb : b = a
      · exact hb
      · exact absurd (if_neg hb) z

theorem walkG {l : PySem.W.OpenLaw} {n k : Nat} {q : Program} {loose : List Str} {XP : (Str → Option Value) → Heap → Prop} {YP : World → Heap → Prop} {d : DefRec} {K : Params → PySem.W.Frag} {sp : World → Sp} {x : Str}
    (hn : l.most = some n) (hn2 : n ≤ sizeLine) (hdf : d.params.defaults = []) (hr : Room k callerA)
    (hY : ∀ (w : World) (h : Heap), YP w h → (K w.params).In h)
    (F : ∀ (w : World) (mg : Str → Option Value) (fa : Addr) (h : Heap), (K w.params).In h → h.Ns mainGlobals mg → mg d.name = some (.ref fa) →
      ∃ fd : FuncData, (∀ (s : Shared) (u : Value), BindsTo s fd ⟨[u], []⟩ [(x, u)]) ∧
        ∀ base : Heap, (K w.params).In base → base.Ns mainGlobals mg → FnG l.prog w (K w.params) mg base k fa fd [x] (sp w))
    (hsp : ∀ (w : World) (H : Hp) (a : Addr) (ns : List Int), ns.length ≤ n → Only H → SqL (K w.params) H a (ns.map V.int) → sp w [.ref a] H (fun v _ => v = .bl true) fun _ _ _ => False)
    : PySem.W.WalkO q loose XP YP l.row.toRowW d [] (fun f vs => PySem.call f vs) := by
  refine Att.attach_call hn hdf fun w s₀ s₁ mg mb fa o pm cd doc a vs ns G Y ho hd hcd hmg hobj hints hlen hg => ?_
  have KX := hY w _ Y
  obtain ⟨fd, hb, hF⟩ := F w mg fa _ KX G.T.g hmg
  exact lawG KX G.T.g G.T.b G.T.builtins G.T.nolimit hg hobj hints (Nat.le_trans hlen hn2) hr hF hb (fun H hO hS => hsp w H a ns hlen hO hS)
end DL

set_option Elab.async false
set_option linter.all false
set_option maxRecDepth 100000
set_option maxHeartbeats 4000000
/-! DL23: the law's promise from its mirror. -/
namespace DL
open PySem PySem.Spec L2 StX
open PyProof.Rows hiding St

def spLaw (K : PySem.W.Frag) : Sp := fun vs H Q _ => ∃ (a : Addr) (ns : List Int), vs = [.ref a] ∧ SqL K H a (ns.map V.int) ∧ ns.length ≤ 63 ∧ ∀ H', Q (.bl true) H'
theorem pss_ex {X : Cx} {l : List Stmt} {ι : Type} {t : ι → TS} (h : ∀ i, PSs X l (t i)) : PSs X l (fun D σ H => ∃ i, t i D σ H) := ⟨fun pins s σ H D I ⟨i, q⟩ => (h i).run pins s σ H D I q⟩
/-- how the law begins: its stream and the count 0, in a list -/
def tState (K : PySem.W.Frag) (E : XK) : TS := tAsg (tLst (tCons (tCallSD (spStream K) [] (fun _ => E) (tCons (tVar 0) tNil)) (tCons (tC (.int 0)) tNil))) (gName 1)
/-- at every stream the law's mirror answers True -/
def LawOk (n : Nat) (m : List Int → M Fl) : Prop := ∀ ms : List Int, ms ≠ [] → ms.length ≤ 4000 → ∃ g, m ms ⟨.no :: .sta :: List.replicate n .no, 0⟩ = .ok (.ret (.bool true)) g
section
variable {P : Program} {w : World} {K : PySem.W.Frag} {mg : Str → Option Value} {base : Heap}
theorem law_ok {k n : Nat} {st : Stmt} {N : List Str} {m : List Int → M Fl} {f : Addr} {fd : FuncData} (F : Fun K "law" "law" st f fd) (S : FnScope N ["script"] (defScope st)) (hN : N.length = n + 2) (ok : LawOk n m)
    (hbody : ∀ (cdv : Value) (A : Around) (outer : List Env) (s : Shared) (H : Hp) (E : XK), Room k (A.deeper (envOfC "law" (defScope st) s.heap.objs.size f cdv)) → (A.deeper (envOfC "law" (defScope st) s.heap.objs.size f cdv)).guards = some [] → (A.deeper (envOfC "law" (defScope st) s.heap.objs.size f cdv)).units + 65 < cLine →
      PSs (cxOf (L2N.CX P w) P w K mg base N "law" (defScope st) f cdv A outer s H E) (defBody st) (tSeq (tState K E) (fun D σ H1 => ∃ stc : Option StC, toS (cx (cxOf (L2N.CX P w) P w K mg base N "law" (defScope st) f cdv A outer s H E) stc fun _ => E) (m (nsOf stc)) D σ H1))) : FnG P w K mg base (k + 1) f fd ["script"] (spLaw K) := by
  refine fn_ofG F S (fun vs H Q E hs => ?_) (fun cdv A outer s H vs Q E hr hgu hs => ⟨_, hbody cdv A outer s H E hr hgu (by have := hr.un; omega), ?_⟩)
  · obtain ⟨a, ns, rfl, _⟩ := hs
    rfl
  · obtain ⟨a, ns, rfl, hS, hlen, q⟩ := hs
    have hst : start N [V.ref a] = some (.ref a) :: none :: List.replicate n none := by
      unfold L2.start
      rw [hN]
      rfl
    rw [hst]
    refine ⟨.ref a, rfl, a, ns, rfl, hS, hlen, fun v H1 B1 ms h0 h1 P1 rp => ?_⟩
    refine ⟨by show 2 ≤ sizeLine; decide, fun p hp => ?_⟩
    obtain ⟨na, vs, rfl, hna, rvs⟩ : ∃ na vs, v = .ref na ∧ B1 na = some (.lst vs) ∧ Rps K B1 vs (ms.map PyData.int) := by cases rp; exact ⟨_, _, rfl, by assumption, by assumption⟩
    have evs := rvs.of_ints
    subst evs
    obtain ⟨g, eg⟩ := ok ms h0 h1
    refine ⟨some ⟨p, na, ms⟩, ⟨upd H1 p (.lst [.ref na, .int 0]), B1⟩, B1, ⟨.no :: .sta :: List.replicate n .no, 0⟩, ?_, ?_⟩
    · have hb : B1 p = none := by
        cases e : B1 p with
        | none => rfl
        | some o => have := P1.s p o e; rw [hp] at this; cases this
      refine ⟨?_, fun i sl e => ?_, fun i j r _ hi => ?_, fun b o e => ?_, fun _ _ q => q, fun _ _ q => .inl q, fun i r hi => ?_, fun _ _ q _ => q, fun c hc => ?_⟩
      · simp
      · match i, e with
        | 0, e => cases e; trivial
        | 1, e => cases e; exact ⟨_, rfl, rfl⟩
        | i + 2, e =>
          have e : (List.replicate n Slot.no)[i]? = some sl := e
          rw [List.getElem?_replicate] at e
          split at e
          · cases e; trivial
          · cases e
      · obtain ⟨sl, e, h⟩ := hi
        match i, e with
        | 0, e => cases e; cases h
        | 1, e => cases e; cases h
        | i + 2, e =>
          have e : (List.replicate n Slot.no)[i]? = some sl := e
          rw [List.getElem?_replicate] at e
          split at e
          · cases e; cases h
          · cases e
      · show upd H1 p _ b = some o
        rw [upd_ne fun z => by rw [z, hb] at e; cases e]
        exact P1.s b o e
      · obtain ⟨sl, e, h⟩ := hi
        match i, e with
        | 0, e => cases e; cases h
        | 1, e => cases e; cases h
        | i + 2, e =>
          have e : (List.replicate n Slot.no)[i]? = some sl := e
          rw [List.getElem?_replicate] at e
          split at e
          · cases e; cases h
          · cases e
      · cases hc
        exact ⟨hb, upd_same, hna, by show upd H1 p _ p ≠ none; rw [upd_same]; exact fun z => nomatch z⟩
    · show FinS _ _ _ (m ms _) _
      rw [eg]
      intro v σ' H' B' R' L' rp
      cases rp
      exact q H'
end
end DL

set_option Elab.async false
set_option linter.all false
/-! DL24: is it of the class: two own classes. -/
namespace DL
open PySem PySem.Spec L2 StX
open PyProof.Rows hiding St
theorem kitC {K : PySem.W.Frag} {cls : Value} {C : Addr} {b : Bool} (hd : PySem.W.hasDictIn K C = true) (ht : PySem.W.typeIn K (.ref C) = some (.type "type")) (h : PySem.W.subIn K cls (.ref C) = some b) : PySem.W.kitCls K cls (.ref C) = some b := by
  obtain ⟨cd, hc, _⟩ := PySem.W.any_some hd
  have e2 : ((PySem.W.clsIn K C).isSome && PySem.W.typeIn K (.ref C) == some (.type "type")) = true := by rw [hc, ht] <;> rfl
  show (if ((PySem.W.clsIn K C).isSome && PySem.W.typeIn K (.ref C) == some (.type "type")) = true then PySem.W.subIn K cls (.ref C) else none) = some b
  rw [if_pos e2]
  exact h
theorem kitT {K : PySem.W.Frag} {cls : Value} {C : Addr} (hd : PySem.W.hasDictIn K C = true) (ht : PySem.W.typeIn K (.ref C) = some (.type "type")) (h : PySem.W.subIn K cls (.ref C) = some true) : PySem.W.kitOne K cls (.ref C) = some true := by
  unfold PySem.W.kitOne
  split
  · rfl
  · exact kitC hd ht h
theorem kitF {K : PySem.W.Frag} {B C : Addr} (hs : PySem.W.subIn K (.ref B) (.ref B) = some true) (hd : PySem.W.hasDictIn K C = true) (ht : PySem.W.typeIn K (.ref C) = some (.type "type")) (h : PySem.W.subIn K (.ref B) (.ref C) = some false) : PySem.W.kitOne K (.ref B) (.ref C) = some false := by
  unfold PySem.W.kitOne
  split
  · rename_i e
    have e : B = C := Value.ref.inj (beq_iff_eq.mp e)
    subst e
    rw [hs] at h
    cases h
  · exact kitC hd ht h
end DL

set_option Elab.async false
set_option linter.all false
set_option maxRecDepth 100000
set_option maxHeartbeats 4000000
/-! DL25: a list comprehension out of which an error may come. -/
namespace DL
open PySem PySem.Spec L2 StX
open PyProof.Rows hiding St

section
variable {M : Model} {A : Around} {E : Value → Shared → Prop} {s : Shared} {env : Env}
def compPostX (M : Model) (A : Around) (E : Value → Shared → Prop) (Q : Value → Shared → Prop) (acc : Value) (cenv : Env) (r : Result) (s' : Shared) : Prop :=
  match r with
  | .ok _ => ∃ m, s'.heap.Ns cenv.locals m ∧ ∀ h', Heap.SameBut cenv.locals s'.heap h' → Q acc { s' with heap := h' }
  | .error x => ∃ m, s'.heap.Ns cenv.locals m ∧ ∀ h', Heap.SameBut cenv.locals s'.heap h' → wpAny M A (passOn "comprehension.variables-let-go" x cenv : Sem Value) (fun _ _ => False) E { s' with heap := h' }
theorem comprehension_x {e : Expr} {scope : Scope} {pos : Pos} {newAcc first : Sem Value} {g : Comprehension} {gs : List Comprehension} {cl : List (Str × Addr)} {Q : Value → Shared → Prop}
    (hcl : clausesOf e = g :: gs) (hs : ∀ x, foldedSetIterable g.iter env x = pure x) (hclos : closureFor scope env = pure cl) (hkind : scope.kind = .function) (hnames : ∀ x ∈ scope.names, x.2 = .local → scope.names.lookup x.1 = some .local)
    (h : wpAny M A first (fun x s₁ => wpAny M A (pyIter x) (fun it s₂ => wpAny M A newAcc (fun acc s₃ => wpAny M A (newFunctionEnv scope env.globals cl [] env.qual none .none (some env)) (fun cenv s₄ =>
        codeAny M A (.compStart e 0 it acc { cenv with scope := relabel scope env }) (compPostX M A E Q acc { cenv with scope := relabel scope env }) s₄) E s₃) E s₂) E s₁) E s) :
    wpAny M A (comprehension e scope env pos newAcc false first none) Q E s := by
  unfold comprehension
  rw [hclos, hcl]
  refine wpAny_bind (wpAny_mono h (fun x s₁ h₁ => wpAny_bind (wpAny_standAt (wpAny_bind (wpAny_of_eq (hs x) (wpAny_bind (wpAny_holding (wpAny_mono h₁ (fun it s₂ h₂ =>
    wpAny_standIf (wpAny_bind (wpAny_mono h₂ (fun acc s₃ h₃ => wpAny_bind (wpAny_pure (wpAny_bind (wpAny_mono h₃ (fun cenv s₄ h₄ => ?_) fun _ _ h' => h')))) fun _ _ h' => h')))
      fun _ _ h' => h'))))))) fun _ _ h' => h')
  dsimp only
  have hv : ∀ x ∈ (scope.names.filter fun x => (x.2 == .local || x.2 == .cell) && x.1 != (".0" : Str)).reverse, x.2 = .local → Env.kindOf { cenv with scope := relabel scope env } x.1 = some .local :=
    fun x hx hl => lookup_relabel_local (hnames x (List.mem_filter.mp (List.mem_reverse.mp hx)).1 hl)
  refine wpAny_holding (wpAny_bind (wpAny_attempt (wpAny_holding (wpAny_run (codeAny_mono h₄ fun r s' hr => ?_)))))
  cases r with
  | ok f =>
    obtain ⟨m, hn, hr⟩ := hr
    exact wpAny_bind (wpAny_holding (wpAny_comp_letGo (cenv := { cenv with scope := relabel scope env }) hkind _ s' m hv hn fun h' m' _ hs' => wpAny_pure (hr h' hs')))
  | error x =>
    obtain ⟨m, hn, hr⟩ := hr
    exact wpAny_bind (wpAny_holding (wpAny_comp_letGo (cenv := { cenv with scope := relabel scope env }) hkind _ s' m hv hn fun h' m' _ hs' => wpAny_mono (hr h' hs') (fun _ _ f => f.elim) fun _ _ y => y))
end

/-- an error that flies out of a block, the block's own names at C -/
structure BX (X : Cx) (σ : St) (C : Addr) (W : XK) (u : Value) (s' : Shared) : Prop where
  ex : ∃ (a : Addr) (B : Heap) (sI : Shared) (pins : List (Addr × Obj)) (H' : Hp) (cls : Value) (d : Option Addr), u = .ref a ∧ Inv X pins σ H' sI ∧ (∀ b o, sI.heap.get? b = some o → b ∉ frs X.stack → B.get? b = some o) ∧ sI.heap.UpToSlots s'.heap ∧
    HandSPX.FlyingZ B X.stack a (L2N.Zn cls d) s'.heap ∧ H' a = none ∧ s'.os = sI.os ∧ AllBare s'.gens ∧ W cls d H' ∧ (∃ m, s'.heap.Ns C m) ∧ B.get? C = none ∧ sI.heap.get? C = none ∧ C ∉ frs X.stack
section
variable {X : Cx} {σ : St}
theorem noteFrame_eq {e : Value} {ce env : Env} (h : ce.frame = env.frame) : noteFrame e ce = noteFrame e env := by
  unfold noteFrame PySem.frameOf
  rw [h]
theorem ns_nofields {h : Heap} {a : Addr} {m : Str → Option Value} (hn : h.Ns a m) : ∃ o, h.get? a = some o ∧ ∀ vs, o.data ≠ .fields vs := by
  obtain ⟨o, es, ep, ho, hd, _⟩ := hn
  exact ⟨o, ho, fun vs z => by rw [hd] at z; cases z⟩
theorem frames_but {h h2 B : Heap} {C : Addr} : ∀ {l : List Env}, h.FunFrames B l → C ∉ frs l → Heap.SameBut C h h2 → h2.FunFrames B l
  | [], _, _, _ => trivial
  | env :: rest, ⟨hk, ⟨L, o, hf, hn, ho, hd⟩, hr⟩, hC, sb => by
    have hL : L ∈ frs (env :: rest) := List.mem_filterMap.mpr ⟨env, List.mem_cons_self, hf⟩
    exact ⟨hk, ⟨L, o, hf, hn, (sb.2 L fun z => hC (z ▸ hL)).trans ho, hd⟩, frames_but hr (fun hm => hC (by
      obtain ⟨e, he, q⟩ := List.mem_filterMap.mp hm
      exact List.mem_filterMap.mpr ⟨e, List.mem_cons_of_mem _ he, q⟩)) sb⟩
theorem BX.noted {C : Addr} {W : XK} {W' : WX} {u : Value} {s' : Shared} {ce : Env} {Q : Value → Shared → Prop} {acc : Value} (x : BX X σ C W u s') (hs : X.stack = X.env :: X.outer) (hf : X.env.frame = some X.env.locals) (tk : L2N.Takes X W') (hW : ∀ cls d H, W cls d H → W' cls d σ H)
    (hce : ce.frame = X.env.frame) (hC : ce.locals = C) : notedBy (model X.prog X.w) X.A ce (fun e s' => compPostX (model X.prog X.w) X.A X.xe Q acc ce (.error e) s') u s' := by
  obtain ⟨a, B, sI, pins, H', cls, d, rfl, I, nb, up, fl, na, os, ag, w, ⟨m, hm⟩, bC, iC, nfr⟩ := x.ex
  subst hC
  have hfr : X.A.frames = some (X.env :: X.outer) := by rw [I.ok.frames, hs]
  show wpAny (model X.prog X.w) X.A (noteFrame (.ref a) ce) _ _ _
  rw [noteFrame_eq hce]
  rw [hs] at fl
  refine PXN.looks_onZ L2N.Zn.steady hfr hf fl fun h1 hh up1 => ?_
  have n1 : h1.Ns ce.locals m := up1.ns hm
  refine ⟨m, n1, fun h2 sb => ?_⟩
  obtain ⟨oC, eC, nfC⟩ := ns_nofields n1
  obtain ⟨k1, k2, k3, oe, vs, T, oT, ts, he, hz, hd, hv1, hnT, hTe, hT, hdT, h3⟩ := hh
  have neF : ∀ b o vs, h1.get? b = some o → o.data = .fields vs → b ≠ ce.locals := fun b o vs e dd z => by
    rw [z, eC] at e; cases e; exact nfC _ dd
  have k1' : B.StaysIn h2 := fun b o e => (sb.2 b fun z => by rw [z, bC] at e; cases e).trans (k1 b o e)
  have k3' : h2.FunFrames B (X.env :: X.outer) := frames_but k3 (by rw [← hs]; exact nfr) sb
  have t2 : HandSPX.TracedZ h2 B a (L2N.Zn cls d) (rawInt X.env.locals) := ⟨oe, vs, T, oT, ts, (sb.2 a (neF a oe vs he hd)).trans he, hz, hd, hv1, hnT, hTe, (sb.2 T (neF T oT ts hT hdT)).trans hT, hdT, h3⟩
  unfold PySem.passOn
  refine wpAny_bind (wpAny_field ((sb.2 a (neF a oe vs he hd)).trans he) hd hv1 ?_)
  rw [if_neg (show ¬ ((Value.ref T == Value.none) = true) from by simp)]
  have fin : wpAny (model X.prog X.w) X.A (setFlight (.ref a) ce.frame) (fun _ s4 => wpAny (model X.prog X.w) X.A (throw (.ref a) : Sem Value) (fun _ _ => False) X.xe s4) X.xe { s' with heap := h2 } := by
    rw [hce, hf]
    refine HandSPX.setFlight_anyZ (s := { s' with heap := h2 }) (fr := some X.env.locals) k1' k3' t2 fun h4 q1 q2 q3 q4 => wpAny_throw (tk _ _ ?_)
    refine ⟨a, B, sI, pins, σ, H', cls, d, rfl, I, nb, ?_, .inr (.inr (by rw [hs]; exact ⟨q1, k2, q2, q3⟩)), na, os, ag, hW _ _ _ w⟩
    refine Heap.UpToSlots.trans (h₂ := h2) (fun b o e nf => ?_) q4
    obtain ⟨sl, e1⟩ := (up.trans up1) b o e nf
    exact ⟨sl, (sb.2 b fun z => by rw [z, iC] at e; cases e).trans e1⟩
  first
    | exact wpAny_bind (wpAny_pure (wpAny_bind fin))
    | exact wpAny_bind fin

/-- the block's context, its errors wished for at the def's slots σ -/
abbrev blkX (X : Cx) (σ : St) (W : XK) (s : Shared) (H : Hp) (scope : Scope) (ce : Env) (fp : List Addr) : Cx := { X.blk s H scope ce fp with xe := BX X σ ce.locals W }
/-- a call in the block lets an error out -/
theorem BX.of_call {W : XK} {pins : List (Addr × Obj)} {s3 : Shared} {H3 : Hp} {scope : Scope} {ce : Env} {fp : List Addr} {σ' : St} {Hy : Hp} {sy : Shared} {E : XK} {u : Value} {s' : Shared} {pins' : List (Addr × Obj)} (I3 : Inv X pins σ H3 s3) (f3 : ∀ b ∈ fp, FpOk X pins H3 b) (hC : s3.heap.objs.size ≤ ce.locals)
    (I : Inv (blkX X σ W s3 H3 scope ce fp) pins' σ' Hy sy) (hW : ∀ cls d H, E cls d H → W cls d H) (c : L2N.CX X.prog X.w X.stack Hy sy E u s') : BX X σ ce.locals W u s' := by
  obtain ⟨a, B, H', cls, d, rfl, fl, hok, ub, na, os, ag, hE⟩ := c
  have st : B.StaysIn s'.heap := fl.1
  have IY := I.base
  have noC : ∀ b o, s3.heap.get? b = some o → b ≠ ce.locals := fun b o e z => absurd (Nat.lt_of_lt_of_le (Heap.lt_size e) hC) (by rw [z]; exact Nat.lt_irrefl _)
  have nfr : ce.locals ∉ frs X.stack := fun hm => by
    obtain ⟨_, o, e, _⟩ := I3.stack.mem hm
    exact noC _ o e rfl
  obtain ⟨mC, hnC, _⟩ := I.loc
  have hnC : sy.heap.Ns ce.locals mC := hnC
  obtain ⟨oC, eC, nfC⟩ := ns_nofields hnC
  have hCy : Hy ce.locals = none := I.free
  have hC' : H' ce.locals = none := ub.free _ _ eC hCy
  have hBC : B.get? ce.locals = some oC := ub.keep _ _ eC hCy nfr
  obtain ⟨G, g1, g2⟩ := restrict s'.heap fun b => ((B.get? b).isSome || decide (b ∈ frs X.stack)) && decide (b ≠ ce.locals)
  obtain ⟨B2, b1, b2⟩ := restrict B fun b => decide (b ≠ ce.locals)
  have gB : ∀ b o, b ≠ ce.locals → B.get? b = some o → G.get? b = some o := fun b o n e => by
    rw [g1 b (by simp [e, n])]
    exact st b o e
  have gF : ∀ b, b ∈ frs X.stack → G.get? b = s'.heap.get? b := fun b hb => g1 b (by
    have : b ≠ ce.locals := fun z => nfr (z ▸ hb)
    simp [hb, this])
  have og : ∀ b o, G.get? b = some o → s'.heap.get? b = some o ∧ b ≠ ce.locals ∧ ((B.get? b).isSome = true ∨ b ∈ frs X.stack) := fun b o e => by
    cases q : (((B.get? b).isSome || decide (b ∈ frs X.stack)) && decide (b ≠ ce.locals)) with
    | false => rw [g2 b q] at e; cases e
    | true =>
      rw [g1 b q] at e
      simp only [Bool.and_eq_true, Bool.or_eq_true, decide_eq_true_eq] at q
      exact ⟨e, q.2, q.1⟩
  have oB : ∀ b o, B2.get? b = some o → B.get? b = some o ∧ b ≠ ce.locals := fun b o e => by
    cases q : decide (b ≠ ce.locals) with
    | false => rw [b2 b q] at e; cases e
    | true => rw [b1 b q] at e; exact ⟨e, of_decide_eq_true q⟩
  refine ⟨a, B2, { sy with heap := G, gens := s'.gens, drawn := s'.drawn, toks := s'.toks }, pins, H', cls, d, rfl, ?_, fun b o e hb => ?_, Heap.UpToSlots.of_keeps fun b o e => (og b o e).1, ?_, na, os, ag, hW _ _ _ hE, ⟨mC, ?_⟩, b2 _ (by simp), g2 _ (by simp), nfr⟩
  · refine I3.call' (ch := fp) (show sy.os = s3.os from I.os) ⟨fun b o e n hb hx => ?_, fun b o e n hb hx => ?_, fun b o e n hx => ?_, fun b o e hx => ?_, fun b xs e => ub.tups b xs (IY.tups b xs e), fun b o xs e => ub.frzs b o xs (IY.frzs b o xs e), fun b ps e => ?_⟩ ?_ ag fun b hb => let z := f3 b hb; ⟨z.2.2.2.1, z.2.1, z.2.2.2.2.1, z.2.2.2.2.2⟩
    · exact gB b o (noC b o e) (ub.keep b o (IY.keep b o e n hb hx) (IY.free b o e n hx) hb)
    · obtain ⟨sl, e1⟩ := IY.slot b o e n hb hx
      obtain ⟨sl2, e2⟩ := ub.slot b _ e1 hb
      exact ⟨sl2, by rw [gF b hb]; exact e2⟩
    · obtain ⟨o', e1⟩ := IY.there b o e hx
      exact ub.free b o' e1 (IY.free b o e n hx)
    · obtain ⟨o', e1⟩ := IY.there b o e hx
      by_cases hb : b ∈ frs X.stack
      · obtain ⟨sl2, e2⟩ := ub.slot b _ e1 hb
        exact ⟨_, by rw [gF b hb]; exact e2⟩
      · obtain ⟨o2, e2⟩ := ub.there b _ e1 hb
        exact ⟨o2, gB b o2 (noC b o e) e2⟩
    · obtain ⟨m1, e1⟩ := IY.tbls b ps e
      obtain ⟨m2, e2⟩ := ub.tbls b _ e1
      exact ⟨m1 ++ m2, by rw [e2, Array.append_assoc]⟩
    · intro b ob e
      refine (hok b ob e).stay (fun c v hc q => gB c v (fun z => ?_) q) (fun _ q => q) fun _ _ q => q
      rcases hc with z2 | z2
      · rw [← z2, z, hC'] at e; cases e
      · rw [z, hC'] at z2; cases z2
  · obtain ⟨e', n, h⟩ := og b o e
    rcases h with h | h
    · obtain ⟨o', q⟩ := Option.isSome_iff_exists.mp h
      have z := st b o' q
      rw [e'] at z; cases z
      rw [b1 b (by simp [n])]
      exact q
    · exact absurd h hb
  · obtain ⟨k1, k2, k3, oe, vs, T, oT, ts, he, hz, hd, hv1, hnT, hTe, hT, hdT, h3⟩ := fl
    refine ⟨fun b o e => k1 b o (oB b o e).1, ?_, funFrames_none k3 fun L hL => ?_, oe, vs, T, oT, ts, he, hz, hd, hv1, ?_, hTe, hT, hdT, h3⟩
    · cases q : B2.get? a with
      | none => rfl
      | some o => have := (oB a o q).1; rw [k2] at this; cases this
    · cases q : B2.get? L with
      | none => rfl
      | some o => have := (oB L o q).1; rw [(k3.mem hL).1] at this; cases this
    · cases q : B2.get? T with
      | none => rfl
      | some o => have := (oB T o q).1; rw [hnT] at this; cases this
  · obtain ⟨o, es, ep, e1, r⟩ := hnC
    exact ⟨o, es, ep, st _ _ (ub.keep _ o e1 hCy nfr), r⟩
end
end DL

set_option Elab.async false
set_option linter.all false
set_option maxRecDepth 100000
set_option maxHeartbeats 4000000
/-! DL26: a list comprehension out of which an error may come: what it says, its rule. -/
namespace DL
open PySem PySem.Spec L2 StX
open PyProof.Rows hiding St

section
variable {C : Ctx}
def lcLoopX (k : D → M Unit) (c : M Bool) (e : M D) (vs : List Nat) : List D → List D → M (List D)
  | [], acc => afterM vs (pureM acc)
  | x :: r, acc => goG (k x) (bindM c fun b => if b = true then (bindM e fun y => pushM acc y fun acc' => afterM vs (lcLoopX k c e vs r acc')) else afterM vs (lcLoopX k c e vs r acc))
def lcXM (src : M (List D)) (k : D → M Unit) (c : M Bool) (e : M D) (vs : List Nat) : M (List D) := bindM src fun xs => afterM vs (lcLoopX k c e vs xs [])
abbrev Ctx.w (C : Ctx) (W : XK) : Ctx := { C with E := fun _ => W }
theorem Sat.turnX {t : TE} {f : M D} {σ0 : St} (h : Sat (C.w (C.E σ0)) t f) {N : An} {σ : St} {H B B0 : Hp} {g : Sg} {p : Addr} {o : HO} (R : Rep C N σ H B g) (hH : H p = some o) (hB : B p = none) (h0 : N.H0 p = none) (hs : ∀ j : Nat, ownAt g.sl j → σ[j]? ≠ some (some (.ref p)))
    {β : Type} {k : D → M β} {P : Res β → Prop} (hb : ¬ P .bad) (hx : ∀ n ct, P (.exc n ct) → ∀ cl H' B', Rep C N σ0 H' B' ⟨List.replicate σ0.length Slot.no, ct⟩ → C.mg n = some (.ref cl) → C.E σ0 (.ref cl) none H') {Q : VK} (hf : P (bindM f k g))
    (hk : ∀ d g' v H' B', Rep C N σ H' B' g' → Le B B' → Rp C.K B' v d → H' p = some o → B' p = none → (∀ j : Nat, ownAt g'.sl j → σ[j]? ≠ some (some (.ref p))) → P (k d g') → Q v H') : t σ H Q := by
  refine h ⟨upd N.H0 p o, N.B0⟩ σ H B g Q ((R.anchor hH hB h0 hs).chE _) ?_
  have hf : P ((f g).bind k) := hf
  cases e : f g with
  | ok d g' =>
    rw [e] at hf
    intro v H' B' R' L rp
    obtain ⟨R2, e1, e2, e3⟩ := (R'.chE C.E).unanchor h0 (R.b0 hB) fun c hc => R.stne hc h0
    exact hk d g' v H' B' R2 L rp e1 e2 e3 hf
  | exc n ct =>
    rw [e] at hf
    intro cl H' B' R' hm
    obtain ⟨R2, e1, e2, e3⟩ := (R'.chE C.E).unanchor h0 (R.b0 hB) fun c hc => R.stne hc h0
    exact hx n ct hf cl H' B' (R2.bare2 rfl) hm
  | bad => rw [e] at hf; exact (hb hf).elim
theorem SatT.turnX {t : TT} {f : M Bool} {σ0 : St} (h : SatT (C.w (C.E σ0)) t f) {N : An} {σ : St} {H B B0 : Hp} {g : Sg} {p : Addr} {o : HO} (R : Rep C N σ H B g) (hH : H p = some o) (hB : B p = none) (h0 : N.H0 p = none) (hs : ∀ j : Nat, ownAt g.sl j → σ[j]? ≠ some (some (.ref p)))
    {β : Type} {k : Bool → M β} {P : Res β → Prop} (hb : ¬ P .bad) (hx : ∀ n ct, P (.exc n ct) → ∀ cl H' B', Rep C N σ0 H' B' ⟨List.replicate σ0.length Slot.no, ct⟩ → C.mg n = some (.ref cl) → C.E σ0 (.ref cl) none H') {Q : Bool → Hp → Prop} (hf : P (bindM f k g))
    (hk : ∀ d g' H' B', Rep C N σ H' B' g' → Le B B' → H' p = some o → B' p = none → (∀ j : Nat, ownAt g'.sl j → σ[j]? ≠ some (some (.ref p))) → P (k d g') → Q d H') : t σ H Q := by
  refine h ⟨upd N.H0 p o, N.B0⟩ σ H B g Q ((R.anchor hH hB h0 hs).chE _) ?_
  have hf : P ((f g).bind k) := hf
  cases e : f g with
  | ok d g' =>
    rw [e] at hf
    intro H' B' R' L
    obtain ⟨R2, e1, e2, e3⟩ := (R'.chE C.E).unanchor h0 (R.b0 hB) fun c hc => R.stne hc h0
    exact hk d g' H' B' R2 L e1 e2 e3 hf
  | exc n ct =>
    rw [e] at hf
    intro cl H' B' R' hm
    obtain ⟨R2, e1, e2, e3⟩ := (R'.chE C.E).unanchor h0 (R.b0 hB) fun c hc => R.stne hc h0
    exact hx n ct hf cl H' B' (R2.bare2 rfl) hm
  | bad => rw [e] at hf; exact (hb hf).elim
theorem SatG.chE {ts : List Nat} {tg : TG} {k : D → M Unit} {E' : St → XK} (h : SatG { C with E := E' } ts tg k) {N : An} {v : V} {d : D} {σ : St} {H B : Hp} {g : Sg} {p : Addr} {o : HO} (R : Rep C N σ H B g) (rp : Rp C.K B v d) (hH : H p = some o) (hB : B p = none) (h0 : N.H0 p = none) (hs : ∀ j : Nat, ownAt g.sl j → σ[j]? ≠ some (some (.ref p)))
    {β : Type} {f : M β} {P : Res β → Prop} (hb : ¬ P .bad) {Q : St → Hp → Prop} (hf : P (goG (k d) f g))
    (hk : ∀ g' σ' H' B', Rep C N σ' H' B' g' → Le B B' → σ'.length = σ.length → (∀ j, j ∉ ts → σ'[j]? = σ[j]?) → H' p = some o → B' p = none → (∀ j : Nat, ownAt g'.sl j → σ'[j]? ≠ some (some (.ref p))) → P (f g') → Q σ' H') : tg v σ H Q := by
  refine h ⟨upd N.H0 p o, N.B0⟩ v σ H B g d _ ((R.anchor hH hB h0 hs).chE _) rp ?_
  unfold goG at hf
  cases e : k d g with
  | ok x g' =>
    rw [e] at hf
    intro σ' H' B' R' L l1 l2
    obtain ⟨R2, e1, e2, e3⟩ := (R'.chE C.E).unanchor h0 (R.b0 hB) fun c hc => R.stne hc h0
    exact hk g' σ' H' B' R2 L l1 l2 e1 e2 e3 hf
  | exc n ct => rw [e] at hf; exact (hb hf).elim
  | bad => rw [e] at hf; exact (hb hf).elim
def tLcX (E : St → XK) (wi : TI) (g : XK → TG) (tt : XK → TT) (te : XK → TE) (vs : List Nat) : TE := fun σ H Q => tLc wi (g (E σ)) (tt (E σ)) (te (E σ)) vs σ H Q
theorem satF_lcX {wi : TI} {tg : XK → TG} {tt : XK → TT} {te : XK → TE} {vs ts : List Nat} {src : M (List D)} {k : D → M Unit} {c : M Bool} {e : M D} (hs : SatI C wi src) (hg : ∀ W, SatG (C.w W) ts (tg W) k) (hc : ∀ W, SatT (C.w W) (tt W) c) (he : ∀ W, Sat (C.w W) (te W) e) (hv : ∀ j, j ∈ ts → j ∈ vs) :
    SatF C (tLcX C.E wi tg tt te vs) (lcXM src k c e vs) := by
  intro N σ H B g Q R q
  refine hs N σ H B g _ R ?_
  have q : FinF C N σ B ((src g).bind fun xs => afterM vs (lcLoopX k c e vs xs [])) Q := q
  cases es : src g with
  | exc n ct => rw [es] at q; exact q
  | bad => rw [es] at q; exact q.elim
  | ok xs g1 =>
    rw [es] at q
    intro J H1 B1 R1 L1 W p hp
    have h0 : N.H0 p = none := R1.fresh hp
    have wl : (wipe σ vs).length = σ.length := wipe_length σ vs
    have em : (σ.map fun _ => Slot.no) = List.replicate σ.length Slot.no := List.map_const' ..
    have hx : ∀ n ct, FinF C N σ B (.exc n ct) Q → ∀ cl H' B', Rep C N σ H' B' ⟨List.replicate σ.length Slot.no, ct⟩ → C.mg n = some (.ref cl) → C.E σ (.ref cl) none H' := fun n ct z cl H' B' R' hm => z cl H' B' (by rw [em]; exact R') hm
    have S0 : LcS C N (wipe σ vs) p B1 (upd H1 p (.lst [])) B1 (g1.forget vs) [] := by
      have R2 := (R1.newl (o := .lst []) hp).wipe vs
      refine ⟨R2, .refl _, fun j hj => ?_, R1.sub_none hp, [], upd_same, .nil⟩
      obtain ⟨a, b⟩ := ownAt_forget hj
      rw [wipe_off a]; exact R1.free_own hp j b
    refine ⟨fun i m H' => ∃ B' g' acc, i ≤ xs.length ∧ m = xs.length - i ∧ LcS C N (wipe σ vs) p B1 H' B' g' acc ∧ FinF C N σ B (lcLoopX k c e vs (xs.drop i) acc g') Q, ⟨xs.length, B1, g1.forget vs, [], Nat.zero_le _, rfl, S0, q⟩, ?_⟩
    rintro i m H2 ⟨B2, g2, acc, hi, rfl, S, q2⟩
    obtain ⟨R2, L2, o2, n2, av, hH2, ra⟩ := id S
    by_cases hlt : i < xs.length
    · have hd : xs.drop i = xs[i] :: xs.drop (i + 1) := List.drop_eq_getElem_cons hlt
      rw [hd] at q2
      refine .inr ⟨W.go i H2 hlt (fun a o z => R2.sub a o (L2 a o z)), fun H' => ∃ B' g' acc, LcS C N (wipe σ vs) p B1 H' B' g' acc ∧ FinF C N σ B (lcLoopX k c e vs (xs.drop (i + 1)) acc g') Q, fun H' ⟨B', g', acc', z1, z2⟩ => ⟨_, Nat.sub_lt_sub_left hlt (Nat.lt_succ_self i), B', g', acc', hlt, rfl, z1, z2⟩, fun x H3 y => ?_⟩
      obtain ⟨B3, G, rp⟩ := W.yld i H2 x H3 B2 xs[i] y (by simp [hlt]) L2 R2.sub
      have R3 := R2.grow G
      have hH3 : H3 p = some (.lst av) := G.h _ _ hH2
      have n3 : B3 p = none := G.apart n2 hH2
      refine (hg (C.E σ)).chE (P := fun x => FinF C N σ B x Q) R3 rp hH3 n3 h0 o2 (fun z => z) q2 fun g4 σ4 H4 B4 R4 L4 l4 e4 hH4 n4 o4 q4 => ?_
      have off : ∀ j : Nat, j ∉ vs → σ4[j]? = σ[j]? := fun j hj => (e4 j fun z => hj (hv j z)).trans (wipe_off hj)
      have len4 : σ4.length = σ.length := l4.trans wl
      refine ⟨wipe_eq vs len4 off, ?_⟩
      have off' : ∀ j : Nat, j ∉ vs → (wipe σ vs)[j]? = σ4[j]? := fun j hj => (wipe_off hj).trans (off j hj).symm
      have len4' : (wipe σ vs).length = σ4.length := wl.trans len4.symm
      refine (hc (C.E σ)).turnX (B0 := B) (P := fun x => FinF C N σ B x Q) R4 hH4 n4 h0 o4 (fun z => z) hx q4 fun b g5 H5 B5 R5 L5 hH5 n5 o5 q5 => ?_
      have LL : Le B2 B5 := (G.b.trans L4).trans L5
      cases b with
      | false =>
        exact ⟨B5, _, acc, (LcS.mk R5 (L2.trans LL) o5 n5 ⟨av, hH5, ra.le LL⟩).back vs len4' off', q5⟩
      | true =>
        refine (he (C.E σ)).turnX (B0 := B) (P := fun x => FinF C N σ B x Q) R5 hH5 n5 h0 o5 (fun z => z) hx q5 fun d g6 v H6 B6 R6 L6 rp6 hH6 n6 o6 q6 => ?_
        unfold pushM at q6
        by_cases hz : acc.length < sizeLine
        · rw [if_pos hz] at q6
          refine ⟨av, hH6, by rw [ra.length]; exact hz, B6, _, acc ++ [d], ?_, q6⟩
          exact (LcS.push R6 ((L2.trans LL).trans L6) o6 n6 h0 (ra.le (LL.trans L6)) rp6).back vs len4' off'
        · rw [if_neg hz] at q6; exact q6.elim
    · have hi' : i = xs.length := by omega
      subst hi'
      rw [List.drop_length] at q2
      exact .inl ⟨W.stop H2 (fun a o z => R2.sub a o (L2 a o z)), S.fin wl.symm (fun j hj => (wipe_off hj).symm) h0 L1 q2⟩
end

/-! ### the rule -/
section
variable {X : Cx}
theorem pe_lcX {E : St → XK} {elt tg iter : Expr} {ifs : List Expr} {scope : Scope} {own : List (Str × Nat)} {pos : Pos} {wi : TI} {g : XK → TG} {tt : XK → TT} {te : XK → TE} (hst : X.stack = X.env :: X.outer) (hfr : X.env.frame = some X.env.locals) (tk : L2N.Takes X (wx E)) (hc : X.calm = true) (hN : X.N.Nodup) (hi : PI X tg iter wi) (ok : BlkOk X.N X.env.scope scope own)
    (hb : ∀ (σ : St) (s : Shared) (H : Hp) (C : Addr) (cl : List (Str × Addr)) (fp : List Addr), (∀ σ', PassesAt (L2N.CX X.prog X.w) (blkX X σ (E σ) s H scope (compEnvC scope cl C X.env) fp) σ' (E σ)) →
      PG (blkX X σ (E σ) s H scope (compEnvC scope cl C X.env) fp) tg (g (E σ)) ∧ PTs (blkX X σ (E σ) s H scope (compEnvC scope cl C X.env) fp) ifs (tt (E σ)) ∧ PE (blkX X σ (E σ) s H scope (compEnvC scope cl C X.env) fp) elt (te (E σ)))
    (hs : ∀ x, foldedSetIterable iter X.env x = pure x := by intro _; rfl) : PE X (.ListComp elt [⟨tg, iter, ifs, 0⟩] scope pos) (tLcX E wi g tt te (own.map (·.2))) := by
  refine ⟨fun pins s σ H Q I h => ?_⟩
  rw [eval_ListComp]
  have h : tLc wi (g (E σ)) (tt (E σ)) (te (E σ)) (own.map (·.2)) σ H Q := h
  have hfree : ∀ y ∈ scope.names, y.2 = .free → ∃ c, X.env.cells.lookup y.1 = some c := fun y hy e => (ok.free y hy e).elim (fun k => I.ok.has _ (.inl k)) fun k => I.ok.has _ (.inr k)
  refine comprehension_x rfl hs (closure_ok hfree) ok.kind (fun y hy e => by rw [ok.uniq y hy, e]) (thn (hi.run pins s σ H _ I h) fun xv s1 hx => thn hx fun itv s2 h2 => ?_)
  obtain ⟨it, fp, tn, J, H2, rfl, I2, T, st2, f2, q⟩ := h2
  refine wpAny_newObj_type (newEnv_comp ?_) (by show 0 ≤ sizeLine; decide)
  have hDn : H2 s2.heap.objs.size = none := I2.hok.fresh (Nat.le_refl _)
  obtain ⟨W, ⟨m0, w0⟩, turn⟩ := q _ hDn
  have I3 : Inv X pins σ (upd H2 s2.heap.objs.size (.lst [])) { s2 with heap := s2.heap.push { cls := .type "list", data := .seq ([] : List Value).toArray } } :=
    I2.laid (t' := s2.toks) (fun b o e => Heap.get?_push_of_some _ e) (Nat.le_refl _) ⟨Nat.zero_le _, [], 0, .nil, Heap.get?_push_size _ rfl⟩
  have old : ∀ b ∈ fp, b < s2.heap.objs.size := fun b hb => let ⟨_, e, _⟩ := T.obj _ _ st2 b hb; Heap.lt_size e
  generalize hD : s2.heap.objs.size = D at *
  generalize hs3 : ({ s2 with heap := s2.heap.push { cls := .type "list", data := .seq ([] : List Value).toArray } } : Shared) = s3 at *
  have h3 : s3.heap = s2.heap.push { cls := .type "list", data := .seq ([] : List Value).toArray } := by rw [← hs3]
  have f3 : ∀ b ∈ fp, FpOk X pins (upd H2 D (.lst [])) b ∧ b < s3.heap.objs.size := fun b hb => by
    have lt := old b hb
    exact ⟨⟨(upd_ne (Nat.ne_of_lt lt)).trans (f2 b hb).1, (f2 b hb).2⟩, by rw [h3, Heap.size_push, hD]; exact Nat.lt_succ_of_lt lt⟩
  have st3 : tn 0 s3.heap := T.keep _ _ _ st2 fun b _ o e => by rw [h3]; exact Heap.get?_push_of_some _ e
  have I40 := block_start I3 ok hN f3
  have hall := hb σ s3 (upd H2 D (.lst [])) s3.heap.objs.size (cellsFrom (s3.heap.objs.size + 1) scope.names (cloFrom X.env.cells scope.names [])) fp
  have nfp : ∀ b ∈ fp, (upd H2 D (.lst [])) b = none := fun b hb => (f3 b hb).1.1
  show codeAny _ _ (.compStart (.ListComp elt [⟨tg, iter, ifs, 0⟩] scope pos) 0 (.ref it) (.ref D) (compEnvC scope (cellsFrom (s3.heap.objs.size + 1) scope.names (cloFrom X.env.cells scope.names [])) s3.heap.objs.size X.env)) (compPostX (model X.prog X.w) X.A X.xe (EP X pins σ Q) (.ref D) (compEnvC scope (cellsFrom (s3.heap.objs.size + 1) scope.names (cloFrom X.env.cells scope.names [])) s3.heap.objs.size X.env)) { s3 with heap := pushCells (s3.heap.push { cls := .type "dict", data := .dict #[] }) scope.names }
  generalize hce : compEnvC scope (cellsFrom (s3.heap.objs.size + 1) scope.names (cloFrom X.env.cells scope.names [])) s3.heap.objs.size X.env = ce at I40 hall ⊢
  have cL : ce.locals = s3.heap.objs.size := by subst hce; rfl
  have cF : ce.frame = X.env.frame := by subst hce; rfl
  generalize hH3 : upd H2 D (.lst []) = H3 at I3 I40 hall w0 nfp f3
  generalize hs4 : ({ s3 with heap := pushCells (s3.heap.push { cls := .type "dict", data := .dict #[] }) scope.names } : Shared) = s4 at I40 ⊢
  have st4 : tn 0 s4.heap := T.keep _ _ _ st3 fun b _ o e => by rw [← hs4]; exact pushCells_keeps _ _ _ _ (Heap.get?_push_of_some _ e)
  have I4 : Inv (blkX X σ (E σ) s3 H3 scope ce fp) [] (wipe σ (own.map (·.2))) H3 s4 := I40.wish _
  obtain ⟨pg, pt, pe⟩ := hall fun σ' pins' Hy sy u s' Iy c => BX.of_call I3 (fun b hb => (f3 b hb).1) (by rw [cL]; exact Nat.le_refl _) Iy (fun _ _ _ z => z) c
  have cells : ∀ {σ' : St} {H' : Hp} {s' : Shared}, Inv (blkX X σ (E σ) s3 H3 scope ce fp) [] σ' H' s' → (∀ b ∈ fp, H' b = none) → ∀ b ∈ fp, FpOk (blkX X σ (E σ) s3 H3 scope ce fp) [] H' b := fun {σ' H' s'} I' hn => blk_cells (X := X) (s := s3) (H := H3) (scope := scope) (ce := ce) I'.unwish hn
  have thnB : ∀ {α : Type} {t : Sem α} {Q1 Q2 : α → Shared → Prop} {s : Shared}, wpAny (model X.prog X.w) X.A t Q1 (BX X σ ce.locals (E σ)) s → (∀ a s, Q1 a s → Q2 a s) → wpAny (model X.prog X.w) X.A t Q2 (notedBy (model X.prog X.w) X.A ce fun e s' => compPostX (model X.prog X.w) X.A X.xe (EP X pins σ Q) (.ref D) ce (.error e) s') s := by
    intro α t Q1 Q' s hq hQ
    exact wpAny_mono hq hQ fun u s' x => x.noted hst hfr tk (fun _ _ _ z => z) cF rfl
  have loop : codeAny (model X.prog X.w) X.A (.compLoop (.ListComp elt [⟨tg, iter, ifs, 0⟩] scope pos) 0 (.ref it) (.ref D) ce) (compPostX (model X.prog X.w) X.A X.xe (EP X pins σ Q) (.ref D) ce) s4 := by
    refine compLoop_any (fun n s' => ∃ i H', Inv (blkX X σ (E σ) s3 H3 scope ce fp) [] (wipe σ (own.map (·.2))) H' s' ∧ tn i s'.heap ∧ (∀ b ∈ fp, H' b = none) ∧ W i n H') ?_ m0 ⟨0, H3, I4, st4, nfp, w0⟩
    rintro n s5 ⟨i, H5, I5, st5, n5, w5⟩
    rcases turn i n H5 w5 with ⟨stop, qq⟩ | ⟨go, Nx, hNx, step⟩
    · refine thnF (T.done (blkX X σ (E σ) s3 H3 scope ce fp) rfl rfl rfl hc i [] s5 _ H5 (fun _ _ => False) I5 (cells I5 n5) st5 stop) fun r s6 ⟨hr, I6⟩ => ?_
      subst hr
      have I7 : Inv X pins σ H5 s6 := I3.call' (ch := fp) I6.os I6.base I6.hok I6.bare fun b hb => let z := (f3 b hb).1; ⟨z.2.2.2.1, z.2.1, z.2.2.2.2.1, z.2.2.2.2.2⟩
      have nC : H5 s3.heap.objs.size = none := cL ▸ (show H5 ce.locals = none from I6.free)
      obtain ⟨m, hn, _⟩ := I6.loc
      obtain ⟨f0, f1, f2', f3', f4, f5⟩ := I3.fpOk (Nat.le_refl _) nC
      exact ⟨m, hn, fun h'' sb => ⟨.ref D, H5, I7.turned (t' := s6.toks) (fun b o hb e => (sb.2 b (by rw [cL]; exact hb)).trans e) f0 f1 f3' f4 f5, rfl, qq⟩⟩
    · refine thnF (T.item (blkX X σ (E σ) s3 H3 scope ce fp) rfl rfl rfl hc i [] s5 _ H5 (fun _ _ => False) I5 (cells I5 n5) st5 go) fun r s6 ⟨u, hr, h6⟩ => ?_
      subst hr
      refine thnF h6 fun _ s7 ⟨x, H7, I7, r7, y7, st7, n7⟩ => ?_
      refine thnB (pg.run _ s7 _ H7 x u _ (I7.pinned (cells I7 n7) (T.obj _ _ st7)) r7 (step x H7 y7)) fun _ s8 ⟨σ8, H8, I8, hw8, q8⟩ => ?_
      refine thnB (pt.run _ s8 σ8 H8 _ I8 q8) fun b s9 ⟨H9, I9, q9⟩ => ?_
      have fin : ∀ {s' : Shared} {H' : Hp}, Inv (blkX X σ (E σ) s3 H3 scope ce fp) ([] ++ pinsAt fp s7.heap) σ8 H' s' → Nx H' → ∃ m, m < n ∧ ∃ i H', Inv (blkX X σ (E σ) s3 H3 scope ce fp) [] (wipe σ (own.map (·.2))) H' s' ∧ tn i s'.heap ∧ (∀ b ∈ fp, H' b = none) ∧ W i m H' := fun {s' H'} I' nx => by
        obtain ⟨m', hm, w'⟩ := hNx H' nx
        have pin' : ∀ b ∈ fp, ∀ o, s7.heap.get? b = some o → s'.heap.get? b = some o ∧ H' b = none := fun b hb o e =>
          let z := I'.pin (b, o) (List.mem_append_right _ (List.mem_append_right _ (mem_pinsAt hb e)))
          ⟨z.1, z.2.1⟩
        refine ⟨m', hm, i + 1, H', (I'.unpinned (pins := [])).weak (by rw [← hw8, wipe_length]) (fun j v e => (wipe_some (hw8 ▸ e)).1), T.keep _ _ _ st7 fun b hb o e => (pin' b hb o e).1, fun b hb => ?_, w'⟩
        obtain ⟨o, e, _⟩ := T.obj _ _ st7 b hb
        exact (pin' b hb o e).2
      cases b with
      | false =>
        rw [if_neg Bool.false_ne_true] at q9 ⊢
        exact fin I9 q9
      | true =>
        rw [if_pos rfl] at q9 ⊢
        refine thnB (pe.run _ s9 σ8 H9 _ I9 q9) fun z s10 ⟨yv, H10, I10, r10, acc, hD10, hz10, nx⟩ => ?_
        exact thnB (app_ok (X := blkX X σ (E σ) s3 H3 scope ce fp) (Q := fun _ s11 => ∃ m, m < n ∧ ∃ i H', Inv (blkX X σ (E σ) s3 H3 scope ce fp) [] (wipe σ (own.map (·.2))) H' s11 ∧ tn i s11.heap ∧ (∀ b ∈ fp, H' b = none) ∧ W i m H') I10 hD10 hz10 r10 fun s11 I11 => fin I11 nx) fun _ _ z => z
  exact codeAny_compStart_list loop (T.self X.A 0 _ _ _ st4 loop)
end
section
variable {X : Cx} {s : Option StC} {E : St → XK}
theorem flcX {elt tg iter : Expr} {ifs : List Expr} {scope : Scope} {pos : Pos} {ts : List Nat} {src : M (List D)} {kk : D → M Unit} {cc : M Bool} {ee : M D} (own : List (Str × Nat)) (hst : X.stack = X.env :: X.outer) (hfr : X.env.frame = some X.env.locals) (tk : L2N.Takes X (wx E)) (hc : X.calm = true) (hN : X.N.Nodup) (ok : BlkOk X.N X.env.scope scope own) (hi : DI (cx X s E) X tg iter src)
    (hb : ∀ (W : XK) (xe : Value → Shared → Prop) (s0 : Shared) (H : Hp) (C : Addr) (cl : List (Str × Addr)) (fp : List Addr), (∀ σ', PassesAt (L2N.CX X.prog X.w) { X.blk s0 H scope (compEnvC scope cl C X.env) fp with xe := xe } σ' ((fun _ => W : St → XK) σ')) →
      DG (cx X s fun _ => W) { X.blk s0 H scope (compEnvC scope cl C X.env) fp with xe := xe } tg ts kk ∧ DTs (cx X s fun _ => W) { X.blk s0 H scope (compEnvC scope cl C X.env) fp with xe := xe } ifs cc ∧ DE (cx X s fun _ => W) { X.blk s0 H scope (compEnvC scope cl C X.env) fp with xe := xe } elt ee)
    (hv : ∀ j, j ∈ ts → j ∈ own.map (·.2) := by decide) (hs : ∀ x, foldedSetIterable iter X.env x = pure x := by intro _; rfl) :
    DF (cx X s E) X (.ListComp elt [⟨tg, iter, ifs, 0⟩] scope pos) (lcXM src kk cc ee (own.map (·.2))) :=
  dF (pe_lcX (g := fun W => toG (cx X s fun _ => W) ts kk) (tt := fun W => toT (cx X s fun _ => W) cc) (te := fun W => toE (cx X s fun _ => W) ee) hst hfr tk hc hN hi ok (fun σ s0 H C cl fp hx => hb (E σ) _ s0 H C cl fp hx) hs) (satF_lcX (C := cx X s E) sI (fun W => sG) (fun W => sT) (fun W => sE) hv)
end
end DL

set_option Elab.async false
set_option linter.all false
set_option maxRecDepth 100000
set_option maxHeartbeats 4000000
/-! DL27: how a mirror is evaluated. -/
namespace DL
open PySem PySem.Spec L2

section
variable {g g1 g2 : Sg}
theorem ev_bind {α β : Type} {f : M α} {k : α → M β} {a : α} {r : Res β} (h : f g = .ok a g1) (h2 : k a g1 = r) : bindM f k g = r := by
  show (f g).bind k = r
  rw [h]; exact h2
theorem ev_next {f k : M Fl} {r : Res Fl} (h : f g = .ok .next g1) (h2 : k g1 = r) : seqM f k g = r := ev_bind h h2
theorem ev_stop {f k : M Fl} {fl : Fl} (h : f g = .ok fl g1) (h2 : fl ≠ .next) : seqM f k g = .ok fl g1 := by
  refine ev_bind h ?_
  cases fl <;> first | exact (h2 rfl).elim | rfl
theorem ev_exc {f k : M Fl} {n : Str} {ct : Int} (h : f g = .exc n ct) : seqM f k g = .exc n ct := by
  show (f g).bind _ = _
  rw [h]; rfl
theorem ev_ifT {α : Type} {c : M Bool} {f k : M α} {r : Res α} (h : c g = .ok true g1) (h2 : f g1 = r) : ifM c f k g = r := ev_bind h h2
theorem ev_ifF {α : Type} {c : M Bool} {f k : M α} {r : Res α} (h : c g = .ok false g1) (h2 : k g1 = r) : ifM c f k g = r := ev_bind h h2
theorem ev_if {α : Type} {c : M Bool} {f k : M α} {r : Res α} {b : Bool} (h : c g = .ok b g1) (h1 : b = true → f g1 = r) (h2 : b = false → k g1 = r) : ifM c f k g = r := by
  cases b with
  | true => exact ev_ifT h (h1 rfl)
  | false => exact ev_ifF h (h2 rfl)
theorem ev_for {src : M (List D)} {k : D → M Unit} {body : M Fl} {xs : List D} {r : Res Fl} (h : src g = .ok xs g1) (h2 : forM xs k body g1 = r) : forS src k body g = r := ev_bind h h2
theorem ev_ret {f : M D} {d : D} (h : f g = .ok d g1) : retM f g = .ok (.ret d) g1 := ev_bind h rfl
theorem ev_asg {f : M D} {k : D → M Unit} {d : D} (h : f g = .ok d g1) (h2 : k d g1 = .ok () g2) : asgM f k g = .ok .next g2 := by
  refine ev_bind h ?_
  unfold goG
  rw [h2]; rfl
theorem ev_op2 {h : D → D → Option D} {f k : M D} {x y z : D} (h1 : f g = .ok x g1) (h2 : k g1 = .ok y g2) (h3 : h x y = some z) : op2 h f k g = .ok z g2 := ev_bind h1 (ev_bind h2 (by unfold liftO; rw [h3]))
theorem ev_op1 {h : D → Option D} {f : M D} {x z : D} (h1 : f g = .ok x g1) (h3 : h x = some z) : op1 h f g = .ok z g1 := ev_bind h1 (by unfold liftO; rw [h3])
theorem ev_opN {h : List D → Option D} {f : M (List D)} {xs : List D} {z : D} (h1 : f g = .ok xs g1) (h3 : h xs = some z) : opN h f g = .ok z g1 := ev_bind h1 (by unfold liftO; rw [h3])
theorem ev_app {i : Nat} {f : M D} {xs xs' : List D} {d : D} (h0 : g.sl[i]? = some (.own xs)) (h : f g = .ok d g1) (h2 : g1.sl[i]? = some (.own xs')) (hz : xs'.length < sizeLine) : appM i f g = .ok .next { g1 with sl := g1.sl.set i (.own (xs' ++ [d])) } := by
  unfold appM
  simp only [h0]
  refine ev_bind h ?_
  simp only [h2, if_pos hz]
theorem eqv_int (i j : Int) : eqD (.int i) (.int j) = some (.bool (i == j)) := rfl
end
theorem small (n : Nat) (h : n ≤ 1000000) : n < sizeLine := Nat.lt_of_le_of_lt h (by decide)

/-! ### the stream's def -/
def isI (xs : List D) : Prop := ∃ ns : List Int, xs = ns.map PyData.int
end DL

set_option Elab.async false
set_option linter.all false
set_option maxRecDepth 100000
set_option maxHeartbeats 4000000
/-! DL28: every script has its stream. -/
namespace DL
open PySem PySem.Spec L2

/-- the state of the stream's def: the list, the turn's number, what is left of it, what is stirred -/
def Ss (xs : List Int) (c r k t : Slot) : Sg := ⟨[.no, .own (xs.map PyData.int), c, r, k, t], 0⟩
theorem app_int {xs : List Int} {n : Int} : (xs.map PyData.int) ++ [PyData.int n] = (xs ++ [n]).map PyData.int := by simp
def body1 : M Fl := (seqM (appM 1 (op2 modD (opN intD (consM (getM 3) (pureM []))) (pureM (.int 1009))))
  (seqM (asgM (op2 fdivD (getM 3) (pureM (.int 1009))) (putM 3))
  (seqM (ifM (asB (op2 eqD (getM 3) (pureM (.int 0))))
  (seqM (pureM .brk)
  nextM)
  nextM)
  nextM)))
def body2 : M Fl := (seqM (asgM (op2 modD (opN intD (consM (op2 addD (op2 addD (op2 mulXD (getM 5) (pureM (.int 48271))) (op2 mulXD (pureM (.int 7)) (getM 4))) (pureM (.int 11))) (pureM []))) (pureM (.int 2147483647))) (putM 5))
  (seqM (appM 1 (op2 modD (op2 modD (opN intD (consM (op2 addD (op2 mulXD (getM 5) (pureM (.int 69621))) (getM 4)) (pureM []))) (pureM (.int 2147483629))) (pureM (.int 1009))))
  nextM))
theorem step1 (xs : List Int) (c k t : Slot) (r : Int) (x : D) (h : xs.length ≤ 5000) : goG (putM 4 x) body1 (Ss xs c (.dat (.int r)) k t) =
    .ok (if r.fdiv 1009 = 0 then .brk else .next) (Ss (xs ++ [r.fmod 1009]) c (.dat (.int (r.fdiv 1009))) (.dat x) t) := by
  show body1 (Ss xs c (.dat (.int r)) (.dat x) t) = _
  refine ev_next (g1 := Ss (xs ++ [r.fmod 1009]) c (.dat (.int r)) (.dat x) t) ?_ ?_
  · have := ev_app (i := 1) (g := Ss xs c (.dat (.int r)) (.dat x) t) (f := op2 modD (opN intD (consM (getM 3) (pureM []))) (pureM (.int 1009))) rfl rfl rfl (by rw [List.length_map]; exact small _ (by omega))
    rw [this]
    show Res.ok Fl.next (⟨[.no, .own (xs.map PyData.int ++ [.int (r.fmod 1009)]), c, .dat (.int r), .dat x, t], 0⟩ : Sg) = _
    rw [app_int]
    rfl
  · refine ev_next (g1 := Ss (xs ++ [r.fmod 1009]) c (.dat (.int (r.fdiv 1009))) (.dat x) t) rfl ?_
    by_cases e : r.fdiv 1009 = 0
    · rw [if_pos e]
      refine ev_stop (ev_ifT (g1 := Ss (xs ++ [r.fmod 1009]) c (.dat (.int (r.fdiv 1009))) (.dat x) t) ?_ rfl) (fun z => nomatch z)
      show Res.ok (r.fdiv 1009 == 0) _ = _
      rw [e]; rfl
    · rw [if_neg e]
      refine ev_next (ev_ifF (g1 := Ss (xs ++ [r.fmod 1009]) c (.dat (.int (r.fdiv 1009))) (.dat x) t) ?_ rfl) rfl
      show Res.ok (r.fdiv 1009 == 0) _ = _
      rw [show (r.fdiv 1009 == 0) = false from beq_false_of_ne e]
theorem mul_r {i j : Int} (h : smallI j = true) : mulXD (.int i) (.int j) = some (.int (i * j)) := by
  show (if (smallI i || smallI j) = true then some (PyData.int (i * j)) else none) = _
  rw [h, Bool.or_true, if_pos rfl]
theorem step2 (xs : List Int) (c r : Slot) (k0 : Slot) (t k : Int) (h : xs.length ≤ 5000) : ∃ n t' : Int, goG (putM 4 (.int k)) body2 (Ss xs c r k0 (.dat (.int t))) = .ok .next (Ss (xs ++ [n]) c r (.dat (.int k)) (.dat (.int t'))) := by
  refine ⟨((((t * 48271 + 7 * k + 11).fmod 2147483647) * 69621 + k).fmod 2147483629).fmod 1009, ((t * 48271 + 7 * k + 11).fmod 2147483647), ?_⟩
  show body2 (Ss xs c r (.dat (.int k)) (.dat (.int t))) = _
  generalize ht : (t * 48271 + 7 * k + 11).fmod 2147483647 = t'
  refine ev_next (g1 := Ss xs c r (.dat (.int k)) (.dat (.int t'))) ?_ (ev_next (g1 := Ss (xs ++ [((t' * 69621 + k).fmod 2147483629).fmod 1009]) c r (.dat (.int k)) (.dat (.int t'))) ?_ rfl)
  · rw [← ht]
    exact ev_asg (ev_op2 (ev_opN (ev_bind (ev_op2 (ev_op2 (ev_op2 rfl rfl (mul_r (by decide))) rfl rfl) rfl rfl) rfl) rfl) rfl rfl) rfl
  · have := ev_app (i := 1) (g := Ss xs c r (.dat (.int k)) (.dat (.int t'))) (f := op2 modD (op2 modD (opN intD (consM (op2 addD (op2 mulXD (getM 5) (pureM (.int 69621))) (getM 4)) (pureM []))) (pureM (.int 2147483629))) (pureM (.int 1009))) rfl
      (ev_op2 (ev_op2 (ev_opN (ev_bind (ev_op2 (ev_op2 rfl rfl (mul_r (by decide))) rfl rfl) rfl) rfl) rfl rfl) rfl rfl) rfl (by rw [List.length_map]; exact small _ (by omega))
    rw [this]
    show Res.ok Fl.next (⟨[.no, .own (xs.map PyData.int ++ [.int (((t' * 69621 + k).fmod 2147483629).fmod 1009)]), c, r, .dat (.int k), .dat (.int t')], 0⟩ : Sg) = _
    rw [app_int]
    rfl
def cellM : M Fl :=
  (seqM (asgM (opN absD (consM (opN intD (consM (getM 2) (pureM []))) (pureM []))) (putM 3))
  (seqM (ifM (asB (op2 geD (getM 3) (op2 powD (pureM (.int 10)) (pureM (.int 18)))))
  (seqM (forS (srcA rng1 (consM (pureM (.int 60)) (pureM []))) (putM 4)
  (seqM (appM 1 (op2 modD (opN intD (consM (getM 3) (pureM []))) (pureM (.int 1009))))
  (seqM (asgM (op2 fdivD (getM 3) (pureM (.int 1009))) (putM 3))
  (seqM (ifM (asB (op2 eqD (getM 3) (pureM (.int 0))))
  (seqM (pureM .brk)
  nextM)
  nextM)
  nextM))))
  nextM)
  (seqM (asgM (op2 modD (opN intD (consM (getM 3) (pureM []))) (pureM (.int 2147483647))) (putM 5))
  (seqM (forS (srcA rng1 (consM (pureM (.int 10)) (pureM []))) (putM 4)
  (seqM (asgM (op2 modD (opN intD (consM (op2 addD (op2 addD (op2 mulXD (getM 5) (pureM (.int 48271))) (op2 mulXD (pureM (.int 7)) (getM 4))) (pureM (.int 11))) (pureM []))) (pureM (.int 2147483647))) (putM 5))
  (seqM (appM 1 (op2 modD (op2 modD (opN intD (consM (op2 addD (op2 mulXD (getM 5) (pureM (.int 69621))) (getM 4)) (pureM []))) (pureM (.int 2147483629))) (pureM (.int 1009))))
  nextM)))
  nextM)))
  nextM))
def srestM : M Fl :=
  (seqM (ifM (asB (op2 eqD (lenV 1) (pureM (.int 0))))
  (seqM (appM 1 (pureM (.int 0)))
  nextM)
  nextM)
  (seqM (retM (getM 1))
  nextM))

theorem loop1 (ys : List Int) (c t : Slot) (r : Int) (k : Slot) (h : ys.length ≤ 4000) : ∃ (zs : List Int) (r' : Int) (k' : Slot), forM (rangeL 0 60) (putM 4) body1 (Ss ys c (.dat (.int r)) k t) = .ok .next (Ss zs c (.dat (.int r')) k' t) ∧ zs.length ≤ ys.length + 60 := by
  obtain ⟨g', e, hh⟩ := forM_inv (k := putM 4) (body := body1) (fun rest g => ∃ (zs : List Int) (r' : Int) (k' : Slot), g = Ss zs c (.dat (.int r')) k' t ∧ zs.length + rest.length ≤ ys.length + 60) (fun g => ∃ (zs : List Int) (r' : Int) (k' : Slot), g = Ss zs c (.dat (.int r')) k' t ∧ zs.length ≤ ys.length + 60)
    (fun x rest g ⟨zs, r', k', e, hl⟩ => by
      subst e
      rw [List.length_cons] at hl
      refine ⟨_, _, step1 zs c k' t r' x (by omega), ?_⟩
      by_cases e : r'.fdiv 1009 = 0
      · rw [if_pos e]
        exact .inr ⟨rfl, _, _, _, rfl, by rw [List.length_append]; simp; omega⟩
      · rw [if_neg e]
        exact .inl ⟨.inl rfl, _, _, _, rfl, by rw [List.length_append]; simp; omega⟩) (rangeL 0 60) (Ss ys c (.dat (.int r)) k t) ⟨ys, r, k, rfl, by unfold rangeL; simp⟩
  rcases hh with ⟨zs, r', k', rfl, hl⟩ | ⟨zs, r', k', rfl, hl⟩
  · exact ⟨zs, r', k', e, by simpa using hl⟩
  · exact ⟨zs, r', k', e, hl⟩
theorem loop2 (ys : List Int) (c r : Slot) (k : Slot) (t : Int) (h : ys.length ≤ 4000) : ∃ (zs : List Int) (k' : Slot) (t' : Int), forM (rangeL 0 10) (putM 4) body2 (Ss ys c r k (.dat (.int t))) = .ok .next (Ss zs c r k' (.dat (.int t'))) ∧ zs.length ≤ ys.length + 60 := by
  obtain ⟨g', e, hh⟩ := forM_inv (k := putM 4) (body := body2) (fun rest g => ∃ (zs : List Int) (k' : Slot) (t' : Int), g = Ss zs c r k' (.dat (.int t')) ∧ zs.length + rest.length ≤ ys.length + 10 ∧ ∀ d ∈ rest, ∃ i : Int, d = .int i) (fun g => False)
    (fun x rest g ⟨zs, k', t', e, hl, hd⟩ => by
      subst e
      rw [List.length_cons] at hl
      obtain ⟨i, rfl⟩ := hd x List.mem_cons_self
      obtain ⟨n, t2, e2⟩ := step2 zs c r k' t' i (by omega)
      exact ⟨_, _, e2, .inl ⟨.inl rfl, _, _, _, rfl, by rw [List.length_append]; simp; omega, fun d hm => hd d (List.mem_cons_of_mem _ hm)⟩⟩) (rangeL 0 10) (Ss ys c r k (.dat (.int t))) ⟨ys, k, t, rfl, by unfold rangeL; simp, fun d hm => by
        unfold rangeL at hm
        obtain ⟨i, _, rfl⟩ := List.mem_map.mp hm
        exact ⟨_, rfl⟩⟩
  rcases hh with ⟨zs, k', t', rfl, hl, _⟩ | hh
  · exact ⟨zs, k', t', e, by simp at hl; omega⟩
  · exact hh.elim
theorem pow18 : powD (.int 10) (.int 18) = some (.int ((10 : Int) ^ (18 : Int).toNat)) := by
  show (if powOk 10 18 = true then some (PyData.int ((10 : Int) ^ (18 : Int).toNat)) else none) = _
  rw [if_pos (by decide)]
theorem cell_ok (ys : List Int) (c : Int) (r k t : Slot) (h : ys.length ≤ 4000) : ∃ (zs : List Int) (r' k' t' : Slot), cellM (Ss ys (.dat (.int c)) r k t) = .ok .next (Ss zs (.dat (.int c)) r' k' t') ∧ zs.length ≤ ys.length + 60 := by
  obtain ⟨n, hn⟩ : ∃ n : Int, n = (if c < 0 then -c else c) := ⟨_, rfl⟩
  have e1 : asgM (opN absD (consM (opN intD (consM (getM 2) (pureM []))) (pureM []))) (putM 3) (Ss ys (.dat (.int c)) r k t) = .ok .next (Ss ys (.dat (.int c)) (.dat (.int n)) k t) := by rw [hn]; rfl
  have e2 : asB (op2 geD (getM 3) (op2 powD (pureM (.int 10)) (pureM (.int 18)))) (Ss ys (.dat (.int c)) (.dat (.int n)) k t) = .ok (decide ((10 : Int) ^ (18 : Int).toNat ≤ n)) (Ss ys (.dat (.int c)) (.dat (.int n)) k t) :=
    ev_bind (ev_op2 (y := .int ((10 : Int) ^ (18 : Int).toNat)) rfl (ev_op2 rfl rfl pow18) rfl) rfl
  cases hb : decide ((10 : Int) ^ (18 : Int).toNat ≤ n) with
  | true =>
    obtain ⟨zs, r', k', e3, hl⟩ := loop1 ys (.dat (.int c)) t n k h
    rw [hb] at e2
    exact ⟨zs, _, _, _, ev_next e1 (ev_next (ev_ifT e2 (ev_next (ev_for (xs := rangeL 0 60) rfl e3) rfl)) rfl), hl⟩
  | false =>
    obtain ⟨zs, k', t', e3, hl⟩ := loop2 ys (.dat (.int c)) (.dat (.int n)) k (n.fmod 2147483647) h
    rw [hb] at e2
    exact ⟨zs, _, _, _, ev_next e1 (ev_next (ev_ifF e2 (ev_next (g1 := Ss ys (.dat (.int c)) (.dat (.int n)) k (.dat (.int (n.fmod 2147483647)))) rfl (ev_next (ev_for (xs := rangeL 0 10) rfl e3) rfl))) rfl), hl⟩
theorem streamOk : StreamOk cellM srestM := by
  intro ns hns
  obtain ⟨g', e, hh⟩ := forM_inv (k := putM 2) (body := cellM) (fun rest g => ∃ (zs : List Int) (c r k t : Slot), g = Ss zs c r k t ∧ zs.length + 60 * rest.length ≤ 3780 ∧ ∀ d ∈ rest, ∃ i : Int, d = .int i) (fun g => False)
    (fun x rest g ⟨zs, c, r, k, t, e, hl, hd⟩ => by
      subst e
      rw [List.length_cons] at hl
      obtain ⟨i, rfl⟩ := hd x List.mem_cons_self
      obtain ⟨ws, r', k', t', e2, hw⟩ := cell_ok zs i r k t (by omega)
      exact ⟨_, _, e2, .inl ⟨.inl rfl, _, _, _, _, _, rfl, by omega, fun d hm => hd d (List.mem_cons_of_mem _ hm)⟩⟩) (ns.map PyData.int) (Ss [] .no .no .no .no) ⟨[], .no, .no, .no, .no, rfl, by simp; omega, fun d hm => by
        obtain ⟨i, _, rfl⟩ := List.mem_map.mp hm
        exact ⟨_, rfl⟩⟩
  rcases hh with ⟨zs, c, r, k, t, rfl, hl, _⟩ | hh
  · simp at hl
    have e0 : forS (srcM (lstM (constF (ns.map PyData.int)))) (putM 2) cellM (Ss [] .no .no .no .no) = .ok .next (Ss zs c r k t) := ev_for (xs := ns.map PyData.int) rfl e
    have el : asB (op2 eqD (lenV 1) (pureM (.int 0))) (Ss zs c r k t) = .ok (((zs.map PyData.int).length : Int) == 0) (Ss zs c r k t) := rfl
    cases zs with
    | nil =>
      refine ⟨[0], ⟨[.no, .dat (.list [.int 0]), c, r, k, t], 0⟩, ?_, by simp, by simp⟩
      refine ev_next e0 (ev_next (ev_ifT (g1 := Ss [] c r k t) rfl (ev_next (g1 := Ss [0] c r k t) ?_ rfl)) (ev_stop (ev_ret rfl) (fun z => nomatch z)))
      exact ev_app (i := 1) (g := Ss [] c r k t) (xs := []) (xs' := []) rfl rfl rfl (small _ (by simp))
    | cons z zs =>
      refine ⟨z :: zs, ⟨[.no, .dat (.list ((z :: zs).map PyData.int)), c, r, k, t], 0⟩, ?_, by simp, by simp at hl ⊢; omega⟩
      refine ev_next e0 (ev_next (ev_ifF (g1 := Ss (z :: zs) c r k t) ?_ rfl) (ev_stop (ev_ret rfl) (fun z => nomatch z)))
      rw [el]
      rw [show (((((z :: zs).map PyData.int).length : Nat) : Int) == 0) = false from beq_false_of_ne (by simp; omega)]
  · exact hh.elim
end DL

set_option Elab.async false
set_option linter.all false
set_option maxRecDepth 100000
set_option maxHeartbeats 4000000
/-! DL29: comprehensions, loops and calls as plain functions. -/
namespace DL
open PySem PySem.Spec L2

theorem forget_nil (g : Sg) : g.forget [] = g := rfl
theorem forget_set_get (is : List Nat) (l : List Slot) (i : Nat) (hi : i ∈ is) (h : i < l.length) : (is.foldr (fun i l => l.set i Slot.no) l)[i]? = some .no := by
  induction is with
  | nil => cases hi
  | cons j r ih =>
    rw [List.foldr_cons]
    by_cases e : j = i
    · subst e
      rw [List.getElem?_set_self (by rw [forget_len]; exact h)]
    · rw [List.getElem?_set_ne e]
      exact ih ((List.mem_cons.mp hi).resolve_left fun z => e z.symm)
theorem forget_off (is : List Nat) (l : List Slot) (i : Nat) (hi : i ∉ is) : (is.foldr (fun i l => l.set i Slot.no) l)[i]? = l[i]? := by
  induction is with
  | nil => rfl
  | cons j r ih =>
    rw [List.foldr_cons, List.getElem?_set_ne fun z => hi (List.mem_cons.mpr (.inl z.symm))]
    exact ih fun z => hi (List.mem_cons_of_mem _ z)
theorem forget_forget (g : Sg) (is : List Nat) : (g.forget is).forget is = g.forget is := by
  unfold Sg.forget
  congr 1
  apply List.ext_getElem?
  intro i
  by_cases h : i ∈ is
  · by_cases hl : i < g.sl.length
    · rw [forget_set_get is _ i h (by rw [forget_len]; exact hl), forget_set_get is _ i h hl]
    · rw [List.getElem?_eq_none (by rw [forget_len, forget_len]; omega), List.getElem?_eq_none (by rw [forget_len]; omega)]
  · rw [forget_off is _ i h]
/-- a turn of a comprehension, from G: whether it keeps x, as what -/
def Turn1 (k : D → M Unit) (c : M Bool) (e : M D) (vs : List Nat) (G : Sg) (x : D) (p : Bool) (y : D) : Prop :=
  ∃ g2 g3 : Sg, k x G = .ok () g2 ∧ c g2 = .ok p g3 ∧ (p = false → g3.forget vs = G) ∧ (p = true → ∃ g4 : Sg, e g3 = .ok y g4 ∧ g4.forget vs = G)
theorem lcLoop_pure {k : D → M Unit} {c : M Bool} {e : M D} {vs : List Nat} {G : Sg} (p : D → Bool) (f : D → D) (hG : G.forget vs = G) : ∀ (xs acc : List D), (∀ x ∈ xs, Turn1 k c e vs G x (p x) (f x)) → acc.length + xs.length ≤ sizeLine → lcLoop k c e vs xs acc G = .ok (acc ++ (xs.filter p).map f) G
  | [], acc, _, _ => by
    show Res.ok acc (G.forget vs) = _
    rw [hG]; simp
  | x :: r, acc, h, hz => by
    obtain ⟨g2, g3, h1, h2, h3, h4⟩ := h x List.mem_cons_self
    rw [List.length_cons] at hz
    show goG (k x) _ G = _
    unfold goG
    rw [h1]
    show ((calmM c) g2).bind _ = _
    have e2 : (calmM c) g2 = .ok (p x) g3 := by unfold calmM; rw [h2]; rfl
    rw [e2]
    cases hp : p x with
    | false =>
      show lcLoop k c e vs r acc (g3.forget vs) = _
      rw [h3 hp, lcLoop_pure p f hG r acc (fun y hy => h y (List.mem_cons_of_mem _ hy)) (by omega)]
      rw [List.filter_cons_of_neg (by simp [hp])]
    | true =>
      obtain ⟨g4, e4, hg4⟩ := h4 hp
      show ((calmM e) g3).bind _ = _
      have e3 : (calmM e) g3 = .ok (f x) g4 := by unfold calmM; rw [e4]; rfl
      rw [e3]
      show pushM acc (f x) (fun acc' => afterM vs (lcLoop k c e vs r acc')) g4 = _
      unfold pushM
      rw [if_pos (by omega)]
      show lcLoop k c e vs r (acc ++ [f x]) (g4.forget vs) = _
      rw [hg4, lcLoop_pure p f hG r (acc ++ [f x]) (fun y hy => h y (List.mem_cons_of_mem _ hy)) (by rw [List.length_append]; simp; omega)]
      rw [List.filter_cons_of_pos (by simp [hp])]
      simp
theorem lc_pure {src : M (List D)} {k : D → M Unit} {c : M Bool} {e : M D} {vs : List Nat} {g g1 : Sg} {xs : List D} (p : D → Bool) (f : D → D) (hs : src g = .ok xs g1) (h : ∀ x ∈ xs, Turn1 k c e vs (g1.forget vs) x (p x) (f x)) (hz : xs.length ≤ sizeLine) :
    lcM src k c e vs g = .ok ((xs.filter p).map f) (g1.forget vs) := by
  refine ev_bind hs ?_
  show lcLoop k c e vs xs [] (g1.forget vs) = _
  rw [lcLoop_pure p f (forget_forget g1 vs) xs [] h (by simpa using hz)]
  simp
/-- no test -/
theorem lc_map {src : M (List D)} {k : D → M Unit} {e : M D} {vs : List Nat} {g g1 : Sg} {xs : List D} (f : D → D) (hs : src g = .ok xs g1) (h : ∀ x ∈ xs, ∃ g2 g4 : Sg, k x (g1.forget vs) = .ok () g2 ∧ e g2 = .ok (f x) g4 ∧ g4.forget vs = g1.forget vs) (hz : xs.length ≤ sizeLine) :
    lcM src k yesM e vs g = .ok (xs.map f) (g1.forget vs) := by
  have := lc_pure (c := yesM) (e := e) (k := k) (vs := vs) (fun _ => true) f hs (fun x hx => by
    obtain ⟨g2, g4, h1, h2, h3⟩ := h x hx
    refine ⟨g2, g2, h1, rfl, ?_, fun _ => ⟨g4, h2, h3⟩⟩
    intro z
    cases z) hz
  rw [this, List.filter_eq_self.mpr fun _ _ => rfl]
/-! two walks -/
theorem lcIn_pure {k1 : D → M Unit} {c1 : M Bool} {e : M D} {vs1 : List Nat} {next : List D → M (List D)} {G : Sg} (p : D → Bool) (f : D → D) : ∀ (ys acc : List D), (∀ y ∈ ys, Turn1 k1 c1 e vs1 G y (p y) (f y)) → acc.length + ys.length ≤ sizeLine → lcIn k1 c1 e vs1 next ys acc G = next (acc ++ (ys.filter p).map f) G
  | [], acc, _, _ => by simp [lcIn]
  | x :: r, acc, h, hz => by
    obtain ⟨g2, g3, h1, h2, h3, h4⟩ := h x List.mem_cons_self
    rw [List.length_cons] at hz
    show goG (k1 x) _ G = _
    unfold goG
    rw [h1]
    show ((calmM c1) g2).bind _ = _
    have e2 : (calmM c1) g2 = .ok (p x) g3 := by unfold calmM; rw [h2]; rfl
    rw [e2]
    cases hp : p x with
    | false =>
      show lcIn k1 c1 e vs1 next r acc (g3.forget vs1) = _
      rw [h3 hp, lcIn_pure p f r acc (fun y hy => h y (List.mem_cons_of_mem _ hy)) (by omega)]
      rw [List.filter_cons_of_neg (by simp [hp])]
    | true =>
      obtain ⟨g4, e4, hg4⟩ := h4 hp
      show ((calmM e) g3).bind _ = _
      have e3 : (calmM e) g3 = .ok (f x) g4 := by unfold calmM; rw [e4]; rfl
      rw [e3]
      show pushM acc (f x) (fun acc' => afterM vs1 (lcIn k1 c1 e vs1 next r acc')) g4 = _
      unfold pushM
      rw [if_pos (by omega)]
      show lcIn k1 c1 e vs1 next r (acc ++ [f x]) (g4.forget vs1) = _
      rw [hg4, lcIn_pure p f r (acc ++ [f x]) (fun y hy => h y (List.mem_cons_of_mem _ hy)) (by rw [List.length_append]; simp; omega)]
      rw [List.filter_cons_of_pos (by simp [hp])]
      simp
/-- [f x y for x in xs for y in ys x if p x y] -/
theorem lc2Loop_pure {k : D → M Unit} {src1 : M (List D)} {k1 : D → M Unit} {c1 : M Bool} {e : M D} {vs vs1 : List Nat} {G : Sg} (ys : D → List D) (p : D → D → Bool) (f : D → D → D) (hG : G.forget vs = G) :
    ∀ (xs acc : List D), (∀ x ∈ xs, ∃ g2 g3 : Sg, k x G = .ok () g2 ∧ src1 g2 = .ok (ys x) g3 ∧ (g3.forget vs1).forget vs = G ∧ ∀ y ∈ ys x, Turn1 k1 c1 e vs1 (g3.forget vs1) y (p x y) (f x y)) → acc.length + (xs.map fun x => (ys x).length).sum ≤ sizeLine →
      lc2Loop k yesM src1 k1 c1 e vs vs1 xs acc G = .ok (acc ++ (xs.flatMap fun x => ((ys x).filter (p x)).map (f x))) G
  | [], acc, _, _ => by
    show Res.ok acc (G.forget vs) = _
    rw [hG]; simp
  | x :: r, acc, h, hz => by
    obtain ⟨g2, g3, h1, h2, h3, h4⟩ := h x List.mem_cons_self
    rw [List.map_cons, List.sum_cons] at hz
    show goG (k x) _ G = _
    unfold goG
    rw [h1]
    show ((calmM src1) g2).bind _ = _
    have e2 : (calmM src1) g2 = .ok (ys x) g3 := by unfold calmM; rw [h2]; rfl
    rw [e2]
    show lcIn k1 c1 e vs1 _ (ys x) acc (g3.forget vs1) = _
    rw [lcIn_pure (p x) (f x) (ys x) acc h4 (by omega)]
    show lc2Loop k yesM src1 k1 c1 e vs vs1 r _ ((g3.forget vs1).forget vs) = _
    have hl : (((ys x).filter (p x)).map (f x)).length ≤ (ys x).length := by rw [List.length_map]; exact List.length_filter_le _ _
    rw [h3, lc2Loop_pure ys p f hG r _ (fun y hy => h y (List.mem_cons_of_mem _ hy)) (by rw [List.length_append]; omega)]
    simp
theorem lc2_pure {src : M (List D)} {k : D → M Unit} {src1 : M (List D)} {k1 : D → M Unit} {c1 : M Bool} {e : M D} {vs vs1 : List Nat} {g g1 : Sg} {xs : List D} (ys : D → List D) (p : D → D → Bool) (f : D → D → D) (hs : src g = .ok xs g1)
    (h : ∀ x ∈ xs, ∃ g2 g3 : Sg, k x (g1.forget vs) = .ok () g2 ∧ src1 g2 = .ok (ys x) g3 ∧ (g3.forget vs1).forget vs = g1.forget vs ∧ ∀ y ∈ ys x, Turn1 k1 c1 e vs1 (g3.forget vs1) y (p x y) (f x y)) (hz : (xs.map fun x => (ys x).length).sum ≤ sizeLine) :
    lc2M src k yesM src1 k1 c1 e vs vs1 g = .ok (xs.flatMap fun x => ((ys x).filter (p x)).map (f x)) (g1.forget vs) := by
  refine ev_bind hs ?_
  show lc2Loop k yesM src1 k1 c1 e vs vs1 xs [] (g1.forget vs) = _
  rw [lc2Loop_pure ys p f (forget_forget g1 vs) xs [] h (by simpa using hz)]
  simp
/-! calls -/
/-- h tells d, and leaves the stream's count at ct' -/
def Tells (h : FnM) (ns : List Int) (ss : List Slot) (ct : Int) (d : D) (ct' : Int) : Prop := ∃ sl, h ns ss ct = .ok d ⟨sl, ct'⟩
theorem ev_call {h : FnM} {ns : List Int} {f : M (List Slot)} {ss : List Slot} {g g1 : Sg} {d : D} {ct' : Int} (hf : f g = .ok ss g1) (ht : Tells h ns ss g1.ct d ct') : callM h ns f g = .ok d { g1 with ct := ct' } := by
  obtain ⟨sl, e⟩ := ht
  refine ev_bind hf ?_
  show (match h ns ss g1.ct with
    | .ok d g' => (.ok d { g1 with ct := g'.ct } : Res D)
    | .exc n ct => .exc n ct
    | .bad => .bad) = _
  rw [e]
/-- a call that raises -/
theorem ev_callX {h : FnM} {ns : List Int} {f : M (List Slot)} {ss : List Slot} {g g1 : Sg} {n : Str} {ct' : Int} (hf : f g = .ok ss g1) (ht : h ns ss g1.ct = .exc n ct') : callM h ns f g = .exc n ct' := by
  refine ev_bind hf ?_
  show (match h ns ss g1.ct with
    | .ok d g' => (.ok d { g1 with ct := g'.ct } : Res D)
    | .exc n ct => .exc n ct
    | .bad => .bad) = _
  rw [ht]
theorem tells_fn {n N : Nat} {m : List Int → M Fl} {ns : List Int} {ss : List Slot} {ct : Int} {d : D} {g : Sg} (hl : ss.length = n) (h : m ns ⟨ss ++ List.replicate (N - ss.length) .no, ct⟩ = .ok (.ret d) g) : Tells (fn n N m) ns ss ct d g.ct := by
  refine ⟨g.sl, ?_⟩
  unfold fn
  rw [if_pos hl]
  unfold runF
  rw [h]
/-! loops over data, the state as a function of what they carry -/
theorem forM_fold {α : Type} {k : D → M Unit} {body : M Fl} (S : α → Sg) (step : α → D → α) (xs : List D) (h : ∀ x ∈ xs, ∀ a, goG (k x) body (S a) = .ok .next (S (step a x))) : ∀ a, forM xs k body (S a) = .ok .next (S (xs.foldl step a)) := by
  induction xs with
  | nil => intro a; rfl
  | cons x r ih =>
    intro a
    have e2 : forM (x :: r) k body (S a) = (goG (k x) body (S a)).bind fun f => match f with
      | .next => forM r k body
      | .cont => forM r k body
      | .brk => nextM
      | .ret d => pureM (.ret d) := by
      show goG (k x) (bindM body _) (S a) = _
      unfold goG
      cases k x (S a) <;> rfl
    rw [e2, h x List.mem_cons_self a]
    exact ih (fun y hy => h y (List.mem_cons_of_mem _ hy)) _
end DL

set_option Elab.async false
set_option linter.all false
set_option maxRecDepth 100000
set_option maxHeartbeats 4000000
/-! DL30: the same over lists of a given kind, and the operations on words of numbers. -/
namespace DL
open PySem PySem.Spec L2

variable {α β : Type}
/-- a function on data that follows one on α, where enc is one to one: here only its values on the list matter -/
theorem lcLoop_map {k : D → M Unit} {c : M Bool} {e : M D} {vs : List Nat} {G : Sg} (enc : α → D) (p : α → Bool) (f : α → D) (hG : G.forget vs = G) : ∀ (xs : List α) (acc : List D), (∀ x ∈ xs, Turn1 k c e vs G (enc x) (p x) (f x)) → acc.length + xs.length ≤ sizeLine → lcLoop k c e vs (xs.map enc) acc G = .ok (acc ++ (xs.filter p).map f) G
  | [], acc, _, _ => by
    show Res.ok acc (G.forget vs) = _
    rw [hG]; simp
  | x :: r, acc, h, hz => by
    have h0 := lcLoop_pure (k := k) (c := c) (e := e) (vs := vs) (G := G) (fun _ => p x) (fun _ => f x) hG [enc x] acc (fun y hy => by
      obtain rfl := List.mem_singleton.mp hy
      exact h x List.mem_cons_self) (by rw [List.length_cons] at hz; simp; omega)
    obtain ⟨g2, g3, h1, h2, h3, h4⟩ := h x List.mem_cons_self
    rw [List.length_cons] at hz
    show goG (k (enc x)) _ G = _
    unfold goG
    rw [h1]
    show ((calmM c) g2).bind _ = _
    have e2 : (calmM c) g2 = .ok (p x) g3 := by unfold calmM; rw [h2]; rfl
    rw [e2]
    cases hp : p x with
    | false =>
      show lcLoop k c e vs (r.map enc) acc (g3.forget vs) = _
      rw [h3 hp, lcLoop_map enc p f hG r acc (fun y hy => h y (List.mem_cons_of_mem _ hy)) (by omega)]
      rw [List.filter_cons_of_neg (by simp [hp])]
    | true =>
      obtain ⟨g4, e4, hg4⟩ := h4 hp
      show ((calmM e) g3).bind _ = _
      have e3 : (calmM e) g3 = .ok (f x) g4 := by unfold calmM; rw [e4]; rfl
      rw [e3]
      show pushM acc (f x) (fun acc' => afterM vs (lcLoop k c e vs (r.map enc) acc')) g4 = _
      unfold pushM
      rw [if_pos (by omega)]
      show lcLoop k c e vs (r.map enc) (acc ++ [f x]) (g4.forget vs) = _
      rw [hg4, lcLoop_map enc p f hG r (acc ++ [f x]) (fun y hy => h y (List.mem_cons_of_mem _ hy)) (by rw [List.length_append]; simp; omega)]
      rw [List.filter_cons_of_pos (by simp [hp])]
      simp
/-- [f x for x in xs if p x] -/
theorem lcT {src : M (List D)} {k : D → M Unit} {c : M Bool} {e : M D} {vs : List Nat} {g g1 : Sg} (enc : α → D) (xs : List α) (p : α → Bool) (f : α → D) (hs : src g = .ok (xs.map enc) g1) (h : ∀ x ∈ xs, Turn1 k c e vs (g1.forget vs) (enc x) (p x) (f x)) (hz : xs.length ≤ sizeLine) :
    lcM src k c e vs g = .ok ((xs.filter p).map f) (g1.forget vs) := by
  refine ev_bind hs ?_
  show lcLoop k c e vs (xs.map enc) [] (g1.forget vs) = _
  rw [lcLoop_map enc p f (forget_forget g1 vs) xs [] h (by simpa using hz)]
  simp
/-- [f x for x in xs] -/
theorem lcTm {src : M (List D)} {k : D → M Unit} {e : M D} {vs : List Nat} {g g1 : Sg} (enc : α → D) (xs : List α) (f : α → D) (hs : src g = .ok (xs.map enc) g1) (h : ∀ x ∈ xs, ∃ g2 g4 : Sg, k (enc x) (g1.forget vs) = .ok () g2 ∧ e g2 = .ok (f x) g4 ∧ g4.forget vs = g1.forget vs) (hz : xs.length ≤ sizeLine) :
    lcM src k yesM e vs g = .ok (xs.map f) (g1.forget vs) := by
  have := lcT (c := yesM) (e := e) (k := k) (vs := vs) enc xs (fun _ => true) f hs (fun x hx => by
    obtain ⟨g2, g4, h1, h2, h3⟩ := h x hx
    refine ⟨g2, g2, h1, rfl, ?_, fun _ => ⟨g4, h2, h3⟩⟩
    intro z
    cases z) hz
  rw [this, List.filter_eq_self.mpr fun _ _ => rfl]
theorem lcIn_map {k1 : D → M Unit} {c1 : M Bool} {e : M D} {vs1 : List Nat} {next : List D → M (List D)} {G : Sg} (enc : β → D) (p : β → Bool) (f : β → D) : ∀ (ys : List β) (acc : List D), (∀ y ∈ ys, Turn1 k1 c1 e vs1 G (enc y) (p y) (f y)) → acc.length + ys.length ≤ sizeLine → lcIn k1 c1 e vs1 next (ys.map enc) acc G = next (acc ++ (ys.filter p).map f) G
  | [], acc, _, _ => by simp [lcIn]
  | x :: r, acc, h, hz => by
    obtain ⟨g2, g3, h1, h2, h3, h4⟩ := h x List.mem_cons_self
    rw [List.length_cons] at hz
    show goG (k1 (enc x)) _ G = _
    unfold goG
    rw [h1]
    show ((calmM c1) g2).bind _ = _
    have e2 : (calmM c1) g2 = .ok (p x) g3 := by unfold calmM; rw [h2]; rfl
    rw [e2]
    cases hp : p x with
    | false =>
      show lcIn k1 c1 e vs1 next (r.map enc) acc (g3.forget vs1) = _
      rw [h3 hp, lcIn_map enc p f r acc (fun y hy => h y (List.mem_cons_of_mem _ hy)) (by omega)]
      rw [List.filter_cons_of_neg (by simp [hp])]
    | true =>
      obtain ⟨g4, e4, hg4⟩ := h4 hp
      show ((calmM e) g3).bind _ = _
      have e3 : (calmM e) g3 = .ok (f x) g4 := by unfold calmM; rw [e4]; rfl
      rw [e3]
      show pushM acc (f x) (fun acc' => afterM vs1 (lcIn k1 c1 e vs1 next (r.map enc) acc')) g4 = _
      unfold pushM
      rw [if_pos (by omega)]
      show lcIn k1 c1 e vs1 next (r.map enc) (acc ++ [f x]) (g4.forget vs1) = _
      rw [hg4, lcIn_map enc p f r (acc ++ [f x]) (fun y hy => h y (List.mem_cons_of_mem _ hy)) (by rw [List.length_append]; simp; omega)]
      rw [List.filter_cons_of_pos (by simp [hp])]
      simp
theorem lc2Loop_map {k : D → M Unit} {src1 : M (List D)} {k1 : D → M Unit} {c1 : M Bool} {e : M D} {vs vs1 : List Nat} {G : Sg} (enc : α → D) (enc1 : β → D) (ys : α → List β) (p : α → β → Bool) (f : α → β → D) (hG : G.forget vs = G) :
    ∀ (xs : List α) (acc : List D), (∀ x ∈ xs, ∃ g2 g3 : Sg, k (enc x) G = .ok () g2 ∧ src1 g2 = .ok ((ys x).map enc1) g3 ∧ (g3.forget vs1).forget vs = G ∧ ∀ y ∈ ys x, Turn1 k1 c1 e vs1 (g3.forget vs1) (enc1 y) (p x y) (f x y)) → acc.length + (xs.map fun x => (ys x).length).sum ≤ sizeLine →
      lc2Loop k yesM src1 k1 c1 e vs vs1 (xs.map enc) acc G = .ok (acc ++ (xs.flatMap fun x => ((ys x).filter (p x)).map (f x))) G
  | [], acc, _, _ => by
    show Res.ok acc (G.forget vs) = _
    rw [hG]; simp
  | x :: r, acc, h, hz => by
    obtain ⟨g2, g3, h1, h2, h3, h4⟩ := h x List.mem_cons_self
    rw [List.map_cons, List.sum_cons] at hz
    show goG (k (enc x)) _ G = _
    unfold goG
    rw [h1]
    show ((calmM src1) g2).bind _ = _
    have e2 : (calmM src1) g2 = .ok ((ys x).map enc1) g3 := by unfold calmM; rw [h2]; rfl
    rw [e2]
    show lcIn k1 c1 e vs1 _ ((ys x).map enc1) acc (g3.forget vs1) = _
    rw [lcIn_map enc1 (p x) (f x) (ys x) acc h4 (by omega)]
    show lc2Loop k yesM src1 k1 c1 e vs vs1 (r.map enc) _ ((g3.forget vs1).forget vs) = _
    have hl : (((ys x).filter (p x)).map (f x)).length ≤ (ys x).length := by rw [List.length_map]; exact List.length_filter_le _ _
    rw [h3, lc2Loop_map enc enc1 ys p f hG r _ (fun y hy => h y (List.mem_cons_of_mem _ hy)) (by rw [List.length_append]; omega)]
    simp
/-- [f x y for x in xs for y in ys x if p x y] -/
theorem lc2T {src : M (List D)} {k : D → M Unit} {src1 : M (List D)} {k1 : D → M Unit} {c1 : M Bool} {e : M D} {vs vs1 : List Nat} {g g1 : Sg} (enc : α → D) (enc1 : β → D) (xs : List α) (ys : α → List β) (p : α → β → Bool) (f : α → β → D) (hs : src g = .ok (xs.map enc) g1)
    (h : ∀ x ∈ xs, ∃ g2 g3 : Sg, k (enc x) (g1.forget vs) = .ok () g2 ∧ src1 g2 = .ok ((ys x).map enc1) g3 ∧ (g3.forget vs1).forget vs = g1.forget vs ∧ ∀ y ∈ ys x, Turn1 k1 c1 e vs1 (g3.forget vs1) (enc1 y) (p x y) (f x y)) (hz : (xs.map fun x => (ys x).length).sum ≤ sizeLine) :
    lc2M src k yesM src1 k1 c1 e vs vs1 g = .ok (xs.flatMap fun x => ((ys x).filter (p x)).map (f x)) (g1.forget vs) := by
  refine ev_bind hs ?_
  show lc2Loop k yesM src1 k1 c1 e vs vs1 (xs.map enc) [] (g1.forget vs) = _
  rw [lc2Loop_map enc enc1 ys p f (forget_forget g1 vs) xs [] h (by simpa using hz)]
  simp
theorem forM_foldT {γ : Type} {k : D → M Unit} {body : M Fl} (enc : α → D) (S : γ → Sg) (step : γ → α → γ) (xs : List α) (h : ∀ x ∈ xs, ∀ a, goG (k (enc x)) body (S a) = .ok .next (S (step a x))) (a : γ) : forM (xs.map enc) k body (S a) = .ok .next (S (xs.foldl step a)) := by
  induction xs generalizing a with
  | nil => rfl
  | cons x r ih =>
    have e2 : forM ((x :: r).map enc) k body (S a) = (goG (k (enc x)) body (S a)).bind fun f => match f with
      | .next => forM (r.map enc) k body
      | .cont => forM (r.map enc) k body
      | .brk => nextM
      | .ret d => pureM (.ret d) := by
      show goG (k (enc x)) (bindM body _) (S a) = _
      unfold goG
      cases k (enc x) (S a) <;> rfl
    rw [e2, h x List.mem_cons_self a]
    exact ih (fun y hy => h y (List.mem_cons_of_mem _ hy)) _
/-- with a fact that each turn keeps, and the turns counted -/
theorem forM_foldI {γ : Type} {k : D → M Unit} {body : M Fl} (enc : α → D) (S : γ → Sg) (step : γ → α → γ) (I : List α → γ → Prop) (xs : List α) (h : ∀ (x : α) (r : List α) (a : γ), x ∈ xs → I (x :: r) a → goG (k (enc x)) body (S a) = .ok .next (S (step a x)) ∧ I r (step a x)) (a : γ) (ha : I xs a) : forM (xs.map enc) k body (S a) = .ok .next (S (xs.foldl step a)) ∧ I [] (xs.foldl step a) := by
  induction xs generalizing a with
  | nil => exact ⟨rfl, ha⟩
  | cons x r ih =>
    have e2 : forM ((x :: r).map enc) k body (S a) = (goG (k (enc x)) body (S a)).bind fun f => match f with
      | .next => forM (r.map enc) k body
      | .cont => forM (r.map enc) k body
      | .brk => nextM
      | .ret d => pureM (.ret d) := by
      show goG (k (enc x)) (bindM body _) (S a) = _
      unfold goG
      cases k (enc x) (S a) <;> rfl
    obtain ⟨h1, h2⟩ := h x r a List.mem_cons_self ha
    rw [e2, h1]
    exact ih (fun y r' a' hy => h y r' a' (List.mem_cons_of_mem _ hy)) _ h2
/-! words of numbers -/
abbrev eI (i : Int) : D := .int i
abbrev eT (w : List Int) : D := .tuple (w.map PyData.int)
theorem canLay_ints (w : List Int) : PyData.canLayAll0 (w.map PyData.int) = true := by
  induction w with
  | nil => rfl
  | cons x r ih => rw [List.map_cons]; simp [PyData.canLayAll0, PyData.canLay0, ih]
theorem anyE_int (i : Int) (w : List Int) : anyE (.int i) (w.map PyData.int) = w.contains i := by
  induction w with
  | nil => rfl
  | cons x r ih =>
    show (PyData.eqv (.int x) (.int i) || anyE (.int i) (r.map PyData.int)) = _
    rw [ih, List.contains_cons]
    congr 1
    show (x == i) = (i == x)
    exact Bool.beq_comm
end DL

set_option Elab.async false
set_option linter.all false
set_option maxRecDepth 100000
set_option maxHeartbeats 4000000
/-! DL31: the operations on numbers and on words of numbers. -/
namespace DL
open PySem PySem.Spec L2

theorem depth_ints (w : List Int) : PyData.depthAll (w.map PyData.int) = 0 := by
  induction w with
  | nil => rfl
  | cons x r ih => rw [List.map_cons]; simp [PyData.depthAll, PyData.depth, ih]
theorem shaped_T (w : List Int) : SeqAt.shaped (eT w) = true := by
  show ((eT w).canLay0 && decide ((eT w).depth ≤ 64)) = true
  simp [PyData.canLay0, canLay_ints, PyData.depth, depth_ints]
theorem shaped_L (w : List Int) : SeqAt.shaped (.list (w.map PyData.int)) = true := by
  show (PyData.canLay0 _ && decide (PyData.depth _ ≤ 64)) = true
  simp [PyData.canLay0, canLay_ints, PyData.depth, depth_ints]
theorem in_T (neg : Bool) (i : Int) (w : List Int) : inD neg (.int i) (eT w) = some (.bool (neg != w.contains i)) := by
  unfold inD
  rw [if_pos ⟨rfl, shaped_T w⟩]
  show some (PyData.bool (if neg = true then !(anyE (.int i) (w.map PyData.int)) else anyE (.int i) (w.map PyData.int))) = _
  rw [anyE_int]
  cases neg <;> simp
theorem eqvAll_ints : ∀ u w : List Int, PyData.eqvAll (u.map PyData.int) (w.map PyData.int) = (u == w)
  | [], [] => rfl
  | [], _ :: _ => rfl
  | _ :: _, [] => rfl
  | x :: u, y :: w => by
    show ((x == y) && PyData.eqvAll (u.map PyData.int) (w.map PyData.int)) = _
    rw [eqvAll_ints u w]
    rfl
theorem eq_T (u w : List Int) : eqD (eT u) (eT w) = some (.bool (u == w)) := by
  unfold eqD
  rw [if_pos ⟨shaped_T u, shaped_T w⟩]
  show some (PyData.bool (PyData.eqvAll (u.map PyData.int) (w.map PyData.int))) = _
  rw [eqvAll_ints]
theorem add_T {u w : List Int} (h : u.length + w.length ≤ sizeLine) : addD (eT u) (eT w) = some (eT (u ++ w)) := by
  show (if (u.map PyData.int).length + (w.map PyData.int).length ≤ sizeLine then some (PyData.tuple (u.map PyData.int ++ w.map PyData.int)) else none) = _
  rw [if_pos (by simpa using h), ← List.map_append]
theorem add_L {u w : List D} (h : u.length + w.length ≤ sizeLine) : addD (.list u) (.list w) = some (.list (u ++ w)) := by
  show (if u.length + w.length ≤ sizeLine then some (PyData.list (u ++ w)) else none) = _
  rw [if_pos h]
theorem atI_last2 {α : Type} (xs : List α) (a b : α) : L2.atI (xs ++ [a, b]) (-2) = some a := by
  have hl : (xs ++ [a, b]).length = xs.length + 2 := by simp
  have e : L2.ixN (xs ++ [a, b]).length (-2) = some xs.length := by
    unfold L2.ixN
    rw [if_neg (by decide), if_pos (by rw [hl]; omega), hl]
    congr 1
    omega
  unfold L2.atI
  rw [e]
  show (xs ++ [a, b])[xs.length]? = some a
  simp
theorem ix_last2 (u : List Int) (a b : Int) : ixD (eT (u ++ [a, b])) (.int (-2)) = some (.int a) := by
  show L2.atI ((u ++ [a, b]).map PyData.int) (-2) = _
  rw [List.map_append]
  exact atI_last2 (u.map PyData.int) (.int a) (.int b)
theorem ix_last (u : List Int) (b : Int) : ixD (eT (u ++ [b])) (.int (-1)) = some (.int b) := by
  show L2.atI ((u ++ [b]).map PyData.int) (-1) = _
  rw [List.map_append]
  exact L2.atI_last (u.map PyData.int) (.int b)
theorem cut_last (u : List D) (b : D) : cutL (u ++ [b]) none (some (-1)) = u := by
  unfold cutL
  have h1 : HT.sIx (u ++ [b]).length 0 none = 0 := rfl
  have h2 : HT.sIx (u ++ [b]).length (u ++ [b]).length (some (-1)) = u.length := by
    show (if (-1 : Int) < 0 then ((-1 : Int) + ((u ++ [b]).length : Int)).toNat else min (-1 : Int).toNat (u ++ [b]).length) = _
    rw [if_pos (by decide), List.length_append]
    simp
    omega
  rw [h1, h2]
  simp
theorem cut_T (u : List Int) (b : Int) : cutD (eT (u ++ [b])) none (some (-1)) = some (eT u) := by
  show some (PyData.tuple (cutL ((u ++ [b]).map PyData.int) none (some (-1)))) = _
  rw [List.map_append]
  exact congrArg (fun x => some (PyData.tuple x)) (cut_last (u.map PyData.int) (.int b))
theorem range_map (n : Nat) : rangeL 0 n = ((List.range n).map fun k : Nat => (k : Int)).map PyData.int := by
  unfold rangeL
  rw [List.map_map]
  apply List.map_congr_left
  intro k _
  show PyData.int (0 + (k : Int)) = _
  rw [Int.zero_add]
  rfl
/-- the numbers lo, lo + 1, ... below hi -/
def rngI (lo hi : Int) : List Int := (List.range (hi - lo).toNat).map fun k : Nat => lo + (k : Int)
theorem rangeL_rngI (lo hi : Int) : rangeL lo (hi - lo).toNat = (rngI lo hi).map PyData.int := by
  unfold rangeL rngI
  rw [List.map_map]
  rfl
theorem rng1_i (n : Int) (h0 : -(1000000) ≤ n) (h : n ≤ 1000000) : rng1 [.int n] = some ((rngI 0 n).map PyData.int) := by
  show (if -(2 ^ 62) ≤ n ∧ n < 2 ^ 62 then some (rangeL 0 n.toNat) else none) = _
  rw [if_pos ⟨by omega, by omega⟩, ← rangeL_rngI, Int.sub_zero]
theorem rng2_i (i j : Int) (h0 : -(1000000) ≤ i) (h : i ≤ 1000000) (h2 : -(1000000) ≤ j) (h3 : j ≤ 1000000) : rng2 [.int i, .int j] = some ((rngI i j).map PyData.int) := by
  show (if -(2 ^ 62) ≤ i ∧ i < 2 ^ 62 ∧ -(2 ^ 62) ≤ j ∧ j < 2 ^ 62 then some (rangeL i (j - i).toNat) else none) = _
  rw [if_pos ⟨by omega, by omega, by omega, by omega⟩, ← rangeL_rngI]
theorem mem_rngI {lo hi i : Int} : i ∈ rngI lo hi ↔ lo ≤ i ∧ i < hi := by
  unfold rngI
  rw [List.mem_map]
  constructor
  · rintro ⟨k, hk, rfl⟩
    have := List.mem_range.mp hk
    omega
  · intro h
    exact ⟨(i - lo).toNat, List.mem_range.mpr (by omega), by omega⟩
theorem len_rngI (lo hi : Int) : (rngI lo hi).length = (hi - lo).toNat := by
  unfold rngI
  rw [List.length_map, List.length_range]
/-! dicts whose keys are words, whose values are numbers -/
abbrev kT (w : List Int) : List Key := w.map Sum.inl
theorem kT_inj {u w : List Int} (h : kT u = kT w) : u = w := by
  induction u generalizing w with
  | nil => cases w with
    | nil => rfl
    | cons y r => cases h
  | cons x u ih => cases w with
    | nil => cases h
    | cons y w =>
      injection h with h1 h2
      injection h1 with h1
      rw [h1, ih h2]
theorem toKeyT_T (w : List Int) : toKeyT (eT w) = some (kT w) := by
  have := toKeyT_map (kT w)
  unfold keyTD at this
  rw [← this]
  congr 1
  show PyData.tuple _ = PyData.tuple _
  congr 1
  show _ = (w.map Sum.inl).map keyD
  rw [List.map_map]
  rfl
theorem val_put {κ : Type} [DecidableEq κ] (kvs : List (κ × D)) (k k' : κ) (v : D) : valD (putD kvs k v) k' = if k = k' then some v else valD kvs k' := by
  unfold valD putD
  split
  · rename_i h
    induction kvs with
    | nil => cases h
    | cons p r ih =>
      obtain ⟨a, b⟩ := p
      rw [List.map_cons, List.find?_cons, List.find?_cons]
      by_cases e : a = k
      · subst e
        simp only [if_true]
        by_cases e2 : a = k'
        · simp [e2]
        · simp only [e2, decide_false, if_false]
          by_cases hr : (r.any fun kv => decide (kv.1 = a)) = true
          · have := ih hr
            rw [if_neg e2] at this
            exact this
          · have : (r.map fun kv => if kv.1 = a then (kv.1, v) else kv) = r := by
              rw [List.map_congr_left (g := id), List.map_id]
              intro q hq
              have : ¬ q.1 = a := fun z => hr (List.any_eq_true.mpr ⟨q, hq, decide_eq_true z⟩)
              simp [this]
            rw [this]
      · simp only [e, if_false]
        by_cases e2 : a = k'
        · subst e2
          simp [Ne.symm e, show ¬ k = a from fun z => e z.symm]
        · simp only [e2, decide_false]
          exact ih (by simpa [e] using h)
  · rename_i h
    rw [List.find?_append]
    cases e : kvs.find? fun kv => decide (kv.1 = k') with
    | none =>
      by_cases e2 : k = k'
      · simp [e2]
      · simp [e2]
    | some q =>
      have hq := List.find?_some e
      have hm := List.mem_of_find?_eq_some e
      have : ¬ k = k' := fun z => h (List.any_eq_true.mpr ⟨q, hm, by rw [z]; exact hq⟩)
      simp [this]
theorem len_put {κ : Type} [DecidableEq κ] (kvs : List (κ × D)) (k : κ) (v : D) : (putD kvs k v).length ≤ kvs.length + 1 := by
  unfold putD
  split
  · rw [List.length_map]; omega
  · simp
end DL

set_option Elab.async false
set_option linter.all false
set_option maxRecDepth 100000
set_option maxHeartbeats 4000000
/-! DL32: ends of words; dicts of words. -/
namespace DL
open PySem PySem.Spec L2
def ini (w : List Int) : List Int := w.take (w.length - 1)
def lst (w : List Int) : Int := w.getD (w.length - 1) 0
def pen (w : List Int) : Int := w.getD (w.length - 2) 0
theorem ini_app (u : List Int) (b : Int) : ini (u ++ [b]) = u := by
  unfold ini
  simp
theorem lst_app (u : List Int) (b : Int) : lst (u ++ [b]) = b := by
  unfold lst
  simp
theorem ini_lst {w : List Int} (h : 1 ≤ w.length) : ini w ++ [lst w] = w := by
  obtain ⟨u, b, rfl⟩ : ∃ u b, w = u ++ [b] := by
    rcases List.eq_nil_or_concat w with e | ⟨u, b, e⟩
    · rw [e] at h; cases h
    · exact ⟨u, b, by rw [e, List.concat_eq_append]⟩
  rw [ini_app, lst_app]
theorem cut_ini {w : List Int} (h : 1 ≤ w.length) : cutD (eT w) none (some (-1)) = some (eT (ini w)) := by
  have := cut_T (ini w) (lst w)
  rw [ini_lst h] at this
  exact this
theorem ix_lst {w : List Int} (h : 1 ≤ w.length) : ixD (eT w) (.int (-1)) = some (.int (lst w)) := by
  have := ix_last (ini w) (lst w)
  rw [ini_lst h] at this
  exact this
theorem pen_app (u : List Int) (a b : Int) : pen (u ++ [a, b]) = a := by
  unfold pen
  simp
theorem ix_pen {w : List Int} (h : 2 ≤ w.length) : ixD (eT w) (.int (-2)) = some (.int (pen w)) := by
  have e1 := ini_lst (w := w) (by omega)
  have hl : (ini w).length = w.length - 1 := by unfold ini; rw [List.length_take]; omega
  have e2 := ini_lst (w := ini w) (by omega)
  have e3 : w = ini (ini w) ++ [lst (ini w), lst w] := by
    have : ini (ini w) ++ [lst (ini w), lst w] = (ini (ini w) ++ [lst (ini w)]) ++ [lst w] := by rw [List.append_assoc]; rfl
    rw [this, e2, e1]
  have := ix_last2 (ini (ini w)) (lst (ini w)) (lst w)
  rw [← e3] at this
  rw [this]
  have h5 : pen w = lst (ini w) := (congrArg pen e3).trans (pen_app _ _ _)
  rw [h5]
/-- what a list of pairs gives for a word -/
def look (kvs : List (List Int × Int)) (k : List Int) : Option Int := (kvs.find? fun p => p.1 == k).map (·.2)
def lookZ (kvs : List (List Int × Int)) (k : List Int) : Int := (look kvs k).getD 0
/-- a dict that gives what the pairs give -/
def DicOf (kvs : List (List Key × D)) (ps : List (List Int × Int)) : Prop := ∀ k, valD kvs (kT k) = (look ps k).map PyData.int
theorem look_add (ps : List (List Int × Int)) (w k : List Int) (v : Int) (h : look ps w = none) : look (ps ++ [(w, v)]) k = if w = k then some v else look ps k := by
  unfold look at *
  rw [List.find?_append]
  cases e : ps.find? fun p => p.1 == k with
  | none =>
    by_cases e2 : w = k
    · simp [e2]
    · simp [e2]
  | some q =>
    have hq := List.find?_some e
    have : ¬ w = k := by
      intro z
      rw [z, e] at h
      cases h
    simp [this]
theorem DicOf.put {kvs : List (List Key × D)} {ps : List (List Int × Int)} (h : DicOf kvs ps) (w : List Int) (v : Int) (hn : look ps w = none) : DicOf (putD kvs (kT w) (.int v)) (ps ++ [(w, v)]) := by
  intro k
  rw [val_put, look_add ps w k v hn, h k]
  by_cases e : w = k
  · rw [if_pos e, if_pos (by rw [e])]; rfl
  · rw [if_neg e, if_neg fun z => e (kT_inj z)]
theorem find_dT {kvs : List (List Key × D)} {ps : List (List Int × Int)} (h : DicOf kvs ps) (w : List Int) (v : Int) (hv : look ps w = some v) : findD (dT kvs) (eT w) = some (some (.int v)) := by
  have hval : valD kvs (kT w) = some (.int v) := by rw [h w, hv]; rfl
  cases kvs with
  | nil => cases hval
  | cons p r =>
    show (match toKeyT (eT w) with
      | some k => (undD toKeyT ((p :: r).map fun p : List Key × D => (keyTD p.1, p.2))).map fun ds => valD ds k
      | none => (toKey (eT w)).bind fun k => (undD toKey ((p :: r).map fun p : List Key × D => (keyTD p.1, p.2))).map fun ds => valD ds k) = _
    rw [toKeyT_T, undT_map]
    show some (valD (p :: r) (kT w)) = _
    rw [hval]
theorem dgetD_dT {kvs : List (List Key × D)} {ps : List (List Int × Int)} (h : DicOf kvs ps) (w : List Int) (v : Int) (hv : look ps w = some v) : dgetD (dT kvs) (eT w) = some (.int v) := by
  have := find_dT h w v hv
  unfold dgetD
  rw [this]
  rfl
end DL

set_option Elab.async false
set_option linter.all false
set_option maxRecDepth 100000
set_option maxHeartbeats 4000000
/-! DL33: dict comprehensions over words as plain functions. -/
namespace DL
open PySem PySem.Spec L2
variable {α : Type}
theorem dcLoop_map {k : D → M Unit} {ek ev : M D} {vs : List Nat} {G : Sg} (enc : α → D) (key : α → List Int) (val : α → Int) (hG : G.forget vs = G) : ∀ (xs : List α) (acc : List (List Key × D)),
    (∀ x ∈ xs, ∃ g2 g3 g4 : Sg, k (enc x) G = .ok () g2 ∧ ek g2 = .ok (eT (key x)) g3 ∧ ev g3 = .ok (.int (val x)) g4 ∧ g4.forget vs = G) → acc.length + xs.length ≤ sizeLine →
    dcLoop k yesM ek ev vs (xs.map enc) acc G = .ok (xs.foldl (fun a x => putD a (kT (key x)) (.int (val x))) acc) G
  | [], acc, _, _ => by
    show Res.ok acc (G.forget vs) = _
    rw [hG]; rfl
  | x :: r, acc, h, hz => by
    obtain ⟨g2, g3, g4, h1, h2, h3, h4⟩ := h x List.mem_cons_self
    rw [List.length_cons] at hz
    show goG (k (enc x)) _ G = _
    unfold goG
    rw [h1]
    show ((calmM ek) g2).bind _ = _
    have e2 : (calmM ek) g2 = .ok (eT (key x)) g3 := by unfold calmM; rw [h2]; rfl
    rw [e2]
    show ((calmM ev) g3).bind _ = _
    have e3 : (calmM ev) g3 = .ok (.int (val x)) g4 := by unfold calmM; rw [h3]; rfl
    rw [e3]
    show (match toKeyT (eT (key x)) with
      | some ks => if acc.length < sizeLine then afterM vs (dcLoop k yesM ek ev vs (r.map enc) (putD acc ks (.int (val x)))) else fun _ => .bad
      | none => fun _ => .bad) g4 = _
    rw [toKeyT_T]
    show (if acc.length < sizeLine then afterM vs (dcLoop k yesM ek ev vs (r.map enc) (putD acc (kT (key x)) (.int (val x)))) else fun _ => .bad) g4 = _
    rw [if_pos (by omega)]
    show dcLoop k yesM ek ev vs (r.map enc) (putD acc (kT (key x)) (.int (val x))) (g4.forget vs) = _
    have hl := len_put acc (kT (key x)) (.int (val x))
    rw [h4, dcLoop_map enc key val hG r _ (fun y hy => h y (List.mem_cons_of_mem _ hy)) (by omega)]
    rfl
theorem dcT {src : M (List D)} {k : D → M Unit} {ek ev : M D} {vs : List Nat} {g g1 : Sg} (enc : α → D) (key : α → List Int) (val : α → Int) (xs : List α) (hs : src g = .ok (xs.map enc) g1)
    (h : ∀ x ∈ xs, ∃ g2 g3 g4 : Sg, k (enc x) (g1.forget vs) = .ok () g2 ∧ ek g2 = .ok (eT (key x)) g3 ∧ ev g3 = .ok (.int (val x)) g4 ∧ g4.forget vs = g1.forget vs) (hz : xs.length ≤ sizeLine) :
    dcM src k yesM ek ev vs g = .ok (xs.foldl (fun a x => putD a (kT (key x)) (.int (val x))) []) (g1.forget vs) := by
  refine ev_bind hs ?_
  show dcLoop k yesM ek ev vs (xs.map enc) [] (g1.forget vs) = _
  exact dcLoop_map enc key val (forget_forget g1 vs) xs [] h (by simpa using hz)
theorem look_none {ps : List (List Int × Int)} {w : List Int} : look ps w = none ↔ w ∉ ps.map (·.1) := by
  unfold look
  rw [Option.map_eq_none_iff, List.find?_eq_none]
  constructor
  · intro h hm
    obtain ⟨q, hq, rfl⟩ := List.mem_map.mp hm
    exact h q hq (by simp)
  · intro h q hq e
    exact h (List.mem_map.mpr ⟨q, hq, by simpa using e⟩)
theorem look_some {ps : List (List Int × Int)} {w : List Int} (h : w ∈ ps.map (·.1)) : look ps w = some (lookZ ps w) := by
  cases e : look ps w with
  | none => exact absurd h (look_none.mp e)
  | some v => unfold lookZ; rw [e]; rfl
theorem DicOf.foldl (key : α → List Int) (val : α → Int) : ∀ (xs : List α) (kvs : List (List Key × D)) (ps : List (List Int × Int)), DicOf kvs ps → (ps.map (·.1) ++ xs.map key).Nodup → DicOf (xs.foldl (fun a x => putD a (kT (key x)) (.int (val x))) kvs) (ps ++ xs.map fun x => (key x, val x))
  | [], kvs, ps, h, _ => by simpa using h
  | x :: r, kvs, ps, h, hn => by
    have hf : look ps (key x) = none := look_none.mpr fun hm => by
      rw [List.map_cons] at hn
      exact (List.nodup_append.mp hn).2.2 _ hm _ List.mem_cons_self rfl
    have := DicOf.foldl key val r _ _ (h.put (key x) (val x) hf) (by simpa using hn)
    simpa using this
theorem DicOf.nil : DicOf [] [] := fun _ => rfl
theorem DicOf.one (w : List Int) (v : Int) : DicOf [(kT w, .int v)] [(w, v)] := DicOf.put DicOf.nil w v rfl
theorem zipD_map {β : Type} (xs : List α) (ys : List β) (f : α → D) (h : β → D) : zipL (xs.map f) (ys.map h) = (xs.zip ys).map fun p => PyData.tuple [f p.1, h p.2] := by
  unfold zipL
  induction xs generalizing ys with
  | nil => rfl
  | cons x r ih => cases ys with
    | nil => rfl
    | cons y s => simp [ih]
end DL

set_option Elab.async false
set_option linter.all false
set_option maxRecDepth 100000
set_option maxHeartbeats 4000000
/-! DL34: the dicts of a frame, evaluated. -/
namespace DL
open PySem PySem.Spec L2
variable {g g1 g2 : Sg}
theorem findV_T {g : Sg} {i : Nat} {kvs : List (List Key × D)} (h : g.sl[i]? = some (.ownT kvs)) (w : List Int) : findV g i (eT w) = some (valD kvs (kT w)) := by
  unfold findV
  rw [h]
  show (toKeyT (eT w)).map _ = _
  rw [toKeyT_T]
  rfl
theorem ev_dgetV {i : Nat} {f : M D} {k v : D} (hd : isDict g i = true) (hf : f g = .ok k g1) (hv : findV g1 i k = some (some v)) : dgetV i f g = .ok v g1 := by
  unfold dgetV
  rw [if_pos hd]
  refine ev_bind hf ?_
  rw [hv]
theorem ev_dget2V {i : Nat} {f l : M D} {k z : D} {o : Option D} (hd : isDict g i = true) (hf : f g = .ok k g1) (hl : l g1 = .ok z g2) (hv : findV g2 i k = some o) : dget2V i f l g = .ok (o.getD z) g2 := by
  unfold dget2V
  rw [if_pos hd]
  refine ev_bind hf (ev_bind hl ?_)
  rw [hv]
theorem ev_dputT {i : Nat} {fk fv : M D} {w : List Int} {v : D} {kvs : List (List Key × D)} (hv : fv g = .ok v g1) (hd : isDict g1 i = true) (hk : fk g1 = .ok (eT w) g2) (hs : g2.sl[i]? = some (.ownT kvs)) (hz : kvs.length < sizeLine) : dputM i fk fv g = .ok .next { g2 with sl := g2.sl.set i (.ownT (putD kvs (kT w) v)) } := by
  refine ev_bind hv ?_
  show (if isDict g1 i = true then _ else _) = _
  rw [if_pos hd]
  refine ev_bind hk ?_
  rw [hs]
  show (match toKeyT (eT w) with
    | some ks => if kvs.length < sizeLine then Res.ok Fl.next { g2 with sl := g2.sl.set i (.ownT (putD kvs ks v)) } else .bad
    | none => .bad) = _
  rw [toKeyT_T]
  show (if kvs.length < sizeLine then Res.ok Fl.next { g2 with sl := g2.sl.set i (.ownT (putD kvs (kT w) v)) } else .bad) = _
  rw [if_pos hz]
theorem ev_cons {f : M D} {r : M (List D)} {d : D} {ds : List D} (h : f g = .ok d g1) (h2 : r g1 = .ok ds g2) : consM f r g = .ok (d :: ds) g2 := ev_bind h (ev_bind h2 rfl)
theorem ev_star {f : M D} {r : M (List D)} {d : D} {xs ds : List D} (h : f g = .ok d g1) (hx : seqD d = some xs) (h2 : r g1 = .ok ds g2) : starM f r g = .ok (xs ++ ds) g2 := ev_bind h (ev_bind (by unfold liftO; rw [hx]) (ev_bind h2 rfl))
theorem ev_dats {f : M (List D)} {ds : List D} (h : f g = .ok ds g1) : datsM f g = .ok (ds.map .dat) g1 := ev_bind h rfl
theorem ev_lst {f : M (List D)} {ds : List D} (h : f g = .ok ds g1) : lstM f g = .ok (.list ds) g1 := ev_bind h rfl
theorem ev_guard {f : M (List D)} {ds : List D} (h : f g = .ok ds g1) (hz : ds.length ≤ sizeLine) : guardL f g = .ok ds g1 := ev_bind h (by rw [if_pos hz]; rfl)
theorem ev_tup {f : M (List D)} {ds : List D} (h : f g = .ok ds g1) (hz : ds.length ≤ sizeLine) : tupM f g = .ok (.tuple ds) g1 := ev_bind h (by rw [if_pos hz]; rfl)
theorem ev_srcA {h : List D → Option (List D)} {f : M (List D)} {ds xs : List D} (hf : f g = .ok ds g1) (hx : h ds = some xs) : srcA h f g = .ok xs g1 := ev_bind hf (by unfold liftO; rw [hx])
theorem ev_asB {f : M D} {b : Bool} (h : f g = .ok (.bool b) g1) : asB f g = .ok b g1 := ev_bind h rfl
end DL

set_option Elab.async false
set_option linter.all false
set_option maxRecDepth 100000
set_option maxHeartbeats 4000000
/-! DL35: comprehensions that may raise. -/
namespace DL
open PySem PySem.Spec L2
variable {α : Type}
theorem lcLoopX_map {k : D → M Unit} {c : M Bool} {e : M D} {vs : List Nat} {G : Sg} (enc : α → D) (p : α → Bool) (f : α → D) (rest : List D) : ∀ (xs : List α) (acc : List D), (∀ x ∈ xs, Turn1 k c e vs G (enc x) (p x) (f x)) → acc.length + xs.length ≤ sizeLine → lcLoopX k c e vs (xs.map enc ++ rest) acc G = lcLoopX k c e vs rest (acc ++ (xs.filter p).map f) G
  | [], acc, _, _ => by simp
  | x :: r, acc, h, hz => by
    obtain ⟨g2, g3, h1, h2, h3, h4⟩ := h x List.mem_cons_self
    rw [List.length_cons] at hz
    show goG (k (enc x)) _ G = _
    unfold goG
    rw [h1]
    show (c g2).bind _ = _
    rw [h2]
    cases hp : p x with
    | false =>
      show lcLoopX k c e vs (r.map enc ++ rest) acc (g3.forget vs) = _
      rw [h3 hp, lcLoopX_map enc p f rest r acc (fun y hy => h y (List.mem_cons_of_mem _ hy)) (by omega)]
      rw [List.filter_cons_of_neg (by simp [hp])]
    | true =>
      obtain ⟨g4, e4, hg4⟩ := h4 hp
      show (e g3).bind _ = _
      rw [e4]
      show pushM acc (f x) (fun acc' => afterM vs (lcLoopX k c e vs (r.map enc ++ rest) acc')) g4 = _
      unfold pushM
      rw [if_pos (by omega)]
      show lcLoopX k c e vs (r.map enc ++ rest) (acc ++ [f x]) (g4.forget vs) = _
      rw [hg4, lcLoopX_map enc p f rest r (acc ++ [f x]) (fun y hy => h y (List.mem_cons_of_mem _ hy)) (by rw [List.length_append]; simp; omega)]
      rw [List.filter_cons_of_pos (by simp [hp])]
      simp
theorem lcXT {src : M (List D)} {k : D → M Unit} {c : M Bool} {e : M D} {vs : List Nat} {g g1 : Sg} (enc : α → D) (xs : List α) (p : α → Bool) (f : α → D) (hs : src g = .ok (xs.map enc) g1) (h : ∀ x ∈ xs, Turn1 k c e vs (g1.forget vs) (enc x) (p x) (f x)) (hz : xs.length ≤ sizeLine) :
    lcXM src k c e vs g = .ok ((xs.filter p).map f) (g1.forget vs) := by
  refine ev_bind hs ?_
  show lcLoopX k c e vs (xs.map enc) [] (g1.forget vs) = _
  have := lcLoopX_map (k := k) (c := c) (e := e) (vs := vs) (G := g1.forget vs) enc p f [] xs [] h (by simpa using hz)
  rw [List.append_nil] at this
  rw [this]
  show Res.ok _ ((g1.forget vs).forget vs) = _
  rw [forget_forget]
  simp
/-- one that raises, all before it calm -/
theorem lcXR {src : M (List D)} {k : D → M Unit} {c : M Bool} {e : M D} {vs : List Nat} {g g1 g2 : Sg} {n : Str} {ct : Int} (enc : α → D) (xs ys : List α) (y : α) (p : α → Bool) (f : α → D) (hs : src g = .ok ((xs ++ y :: ys).map enc) g1) (h : ∀ x ∈ xs, Turn1 k c e vs (g1.forget vs) (enc x) (p x) (f x)) (hz : xs.length ≤ sizeLine) (hk : k (enc y) (g1.forget vs) = .ok () g2) (hc : c g2 = .exc n ct) :
    lcXM src k c e vs g = .exc n ct := by
  refine ev_bind hs ?_
  show lcLoopX k c e vs ((xs ++ y :: ys).map enc) [] (g1.forget vs) = _
  rw [List.map_append, lcLoopX_map (k := k) (c := c) (e := e) (vs := vs) (G := g1.forget vs) enc p f _ xs [] h (by simpa using hz)]
  show goG (k (enc y)) _ (g1.forget vs) = _
  unfold goG
  rw [hk]
  show (c g2).bind _ = _
  rw [hc]
  rfl
end DL

set_option Elab.async false
set_option linter.all false
set_option maxRecDepth 100000
set_option maxHeartbeats 4000000
/-! DL36: data whose repr is in reach. -/
namespace DL
open PySem PySem.Spec L2
def okT (x : Str) : Prop := ∀ c ∈ x.cps.toList, c < 0x110000
theorem okT_app {a b : Str} (ha : okT a) (hb : okT b) : okT (a ++ b) := by
  intro c hc
  have hc : c ∈ (a.cps ++ b.cps).toList := hc
  rw [Array.toList_append] at hc
  exact (List.mem_append.mp hc).elim (ha c) (hb c)
theorem okT_join : ∀ ts : List Str, (∀ t ∈ ts, okT t) → okT (Str.join ", " ts)
  | [], _ => by intro c hc; cases hc
  | [x], h => h x (List.mem_singleton.mpr rfl)
  | x :: y :: r, h => okT_app (okT_app (h x List.mem_cons_self) (by unfold okT; decide +kernel)) (okT_join (y :: r) fun t ht => h t (List.mem_cons_of_mem _ ht))
theorem okT_strOk {x : Str} (h : okT x) : PyData.strOk x = true := by
  unfold PyData.strOk
  rw [← Array.all_toList, List.all_eq_true]
  intro c hc
  exact decide_eq_true (h c hc)
structure Nice (k n : Nat) (d : D) : Prop where
  s : d.showable = true
  c : d.canLay0 = true
  l : d.leavesShort 13 = true
  t : okT d.shown
  dp : d.depth ≤ k
  w : d.weight ≤ n
theorem Nice.mono {k n k' n' : Nat} {d : D} (h : Nice k n d) (hk : k ≤ k') (hn : n ≤ n') : Nice k' n' d := ⟨h.s, h.c, h.l, h.t, Nat.le_trans h.dp hk, Nat.le_trans h.w hn⟩
def niceB (d : D) : Bool := d.showable && d.canLay0 && d.leavesShort 13 && d.shown.cps.toList.all (fun c => decide (c < 0x110000)) && decide (d.depth ≤ 0) && decide (d.weight ≤ 20)
theorem nice_of {d : D} (h : niceB d = true) : Nice 0 20 d := by
  unfold niceB at h
  simp only [Bool.and_eq_true] at h
  obtain ⟨⟨⟨⟨⟨h1, h2⟩, h3⟩, h4⟩, h5⟩, h6⟩ := h
  exact ⟨h1, h2, h3, fun c hc => of_decide_eq_true (List.all_eq_true.mp h4 c hc), of_decide_eq_true h5, of_decide_eq_true h6⟩
theorem nice_ints : ∀ k ∈ List.range 201, niceB (.int ((k : Int) - 100)) = true := by decide +kernel
theorem Nice.int {i : Int} (h1 : -100 ≤ i) (h2 : i ≤ 100) : Nice 0 20 (.int i) := by
  have := nice_ints (i + 100).toNat (List.mem_range.mpr (by omega))
  have e : (((i + 100).toNat : Nat) : Int) - 100 = i := by omega
  rw [e] at this
  exact nice_of this
theorem Nice.bool (b : Bool) : Nice 0 20 (.bool b) := by cases b <;> exact nice_of (by decide +kernel)
theorem Nice.none : Nice 0 20 .none := nice_of (by decide +kernel)
theorem nice_all {k n : Nat} : ∀ xs : List D, (∀ x ∈ xs, Nice k n x) → PyData.showableAll xs = true ∧ PyData.canLayAll0 xs = true ∧ PyData.leavesShortAll 13 xs = true ∧ (∀ t ∈ PyData.shownAll xs, okT t) ∧ PyData.depthAll xs ≤ k ∧ PyData.weightAll xs ≤ xs.length * (n + 1)
  | [], _ => ⟨rfl, rfl, rfl, (fun t ht => by cases ht), Nat.zero_le _, Nat.zero_le _⟩
  | x :: r, h => by
    obtain ⟨h1, h2, h3, h4, h5, h6⟩ := nice_all r fun y hy => h y (List.mem_cons_of_mem _ hy)
    have hx := h x List.mem_cons_self
    refine ⟨?_, ?_, ?_, fun t ht => ?_, ?_, ?_⟩
    · show (x.showable && PyData.showableAll r) = true
      rw [hx.s, h1]; rfl
    · show (x.canLay0 && PyData.canLayAll0 r) = true
      rw [hx.c, h2]; rfl
    · show (x.leavesShort 13 && PyData.leavesShortAll 13 r) = true
      rw [hx.l, h3]; rfl
    · rw [PyData.shownAll_cons] at ht
      rcases List.mem_cons.mp ht with rfl | ht
      · exact hx.t
      · exact h4 t ht
    · show max x.depth (PyData.depthAll r) ≤ k
      exact Nat.max_le.mpr ⟨hx.dp, h5⟩
    · show x.weight + 1 + PyData.weightAll r ≤ (r.length + 1) * (n + 1)
      have := hx.w
      rw [Nat.succ_mul]
      omega
theorem Nice.list {k n L : Nat} {xs : List D} (h : ∀ x ∈ xs, Nice k n x) (hl : xs.length ≤ L) : Nice (k + 1) (L * (n + 1)) (.list xs) := by
  obtain ⟨h1, h2, h3, h4, h5, h6⟩ := nice_all xs h
  refine ⟨h1, h2, h3, ?_, Nat.succ_le_succ h5, Nat.le_trans h6 (Nat.mul_le_mul_right _ hl)⟩
  rw [PyData.shown_list]
  exact okT_app (okT_app (by unfold okT; decide +kernel) (okT_join _ h4)) (by unfold okT; decide +kernel)
theorem Nice.tuple {k n L : Nat} {xs : List D} (h : ∀ x ∈ xs, Nice k n x) (hl : xs.length ≤ L) : Nice (k + 1) (L * (n + 1)) (.tuple xs) := by
  obtain ⟨h1, h2, h3, h4, h5, h6⟩ := nice_all xs h
  refine ⟨h1, h2, h3, ?_, Nat.succ_le_succ h5, Nat.le_trans h6 (Nat.mul_le_mul_right _ hl)⟩
  rw [PyData.shown_tuple]
  refine okT_app (okT_app (by unfold okT; decide +kernel) (okT_join _ h4)) ?_
  split
  · unfold okT; decide +kernel
  · unfold okT; decide +kernel
theorem Nice.word {w : List Int} {L : Nat} (h : ∀ x ∈ w, -100 ≤ x ∧ x ≤ 100) (hl : w.length ≤ L) : Nice 1 (L * 21) (eT w) := by
  refine Nice.tuple (k := 0) (n := 20) (fun x hx => ?_) (by rw [List.length_map]; exact hl)
  obtain ⟨i, hi, rfl⟩ := List.mem_map.mp hx
  exact Nice.int (h i hi).1 (h i hi).2
/-- what the law's def that asks whether two things have one repr does, if they are the same -/
theorem repr_nice {d : D} (h : Nice 40 1000000 d) : reprD [.list [d]] = some (.str (PyData.list [d]).shown) ∧ eqD (.str (PyData.list [d]).shown) (.str (PyData.list [d]).shown) = some (.bool true) := by
  have hn := Nice.list (k := 40) (n := 1000000) (L := 1) (xs := [d]) (fun x hx => by obtain rfl := List.mem_singleton.mp hx; exact h) (Nat.le_refl _)
  have hw : (PyData.list [d]).weight ≤ 2 ^ 20 := Nat.le_trans hn.w (by decide)
  constructor
  · show (if _ then some (PyData.str (PyData.list [d]).shown) else Option.none) = _
    exact if_pos ⟨rfl, hn.s, hn.c, Nat.le_trans hn.dp (by decide), PyData.shown_fits (B := 13) (by decide) (by decide) hn.l hw⟩
  · have hs : SeqAt.shaped (.str (PyData.list [d]).shown) = true := by
      show (PyData.strOk _ && decide (PyData.depth (.str _) ≤ 64)) = true
      rw [okT_strOk hn.t]
      rfl
    unfold eqD
    rw [if_pos ⟨hs, hs⟩]
    show some (PyData.bool ((PyData.list [d]).shown == (PyData.list [d]).shown)) = _
    simp
end DL

set_option Elab.async false
set_option linter.all false
set_option maxRecDepth 100000
set_option maxHeartbeats 4000000
namespace K68
open PySem PySem.Spec L2 StX DL
open PyProof.Rows hiding St
def topS (i : Nat) : Stmt := PySem.Challenge.pw_namelessnets_k68_whole_lies_of_all_kinds.main.body.getD i (.Pass ⟨0, 0, 0, 0⟩)
def nmE : Str → Option Str := fun n => if n = "NotAllowed" then some "refused" else if n = "TooLarge" then some "large" else if n = "Missing" then some "missing" else if n = "BadPaper" then some "paper" else none
def forBody : Stmt → List Stmt
  | .For _ _ b _ _ => b
  | _ => []
structure Txt (K : PySem.W.Frag) (mg : Str → Option Value) : Prop where
  n_abs : mg "abs" = none
  n_all : mg "all" = none
  n_enumerate : mg "enumerate" = none
  n_int : mg "int" = none
  n_isinstance : mg "isinstance" = none
  n_len : mg "len" = none
  n_list : mg "list" = none
  n_range : mg "range" = none
  n_repr : mg "repr" = none
  n_set : mg "set" = none
  n_sum : mg "sum" = none
  n_tuple : mg "tuple" = none
  n_zip : mg "zip" = none
  c_MAX_DEEP : ∃ t, mg "MAX_DEEP" = some (.int 2 t)
  c_MAX_FOLK : ∃ t, mg "MAX_FOLK" = some (.int 5 t)
  c_MAX_LIES : ∃ t, mg "MAX_LIES" = some (.int 10 t)
  x_BadPaper : ExcD K mg "BadPaper"
  x_Missing : ExcD K mg "Missing"
  x_NotAllowed : ExcD K mg "NotAllowed"
  x_TooLarge : ExcD K mg "TooLarge"
section
variable {P : Program} {w : World} {K : PySem.W.Frag} {mg : Str → Option Value} {base : Heap}
/-! check_case -/
abbrev s_check_case : Stmt := topS 11
abbrev N_check_case : List Str := ["many", "depth", "liars", "one", "other"]
theorem sc_check_case : FnScope N_check_case ["many", "depth", "liars"] (defScope s_check_case) := ⟨rfl, rfl, rfl, by decide +kernel, rfl, by decide +kernel, by decide +kernel⟩
def m_check_case (ns : List Int) : M Fl :=
  (seqM (ifM (orM (asB (op2 gtD (getM 0) (pureM (.int 5)))) (asB (op2 gtD (getM 1) (pureM (.int 2)))))
  (seqM (raiseM "TooLarge")
  nextM)
  nextM)
  (seqM (ifM (orM (asB (op2 ltD (getM 0) (pureM (.int 1)))) (asB (op2 ltD (getM 1) (pureM (.int 0)))))
  (seqM (raiseM "NotAllowed")
  nextM)
  nextM)
  (seqM (ifM (orM (notM (asB (opN allD (consM (lstM (lcM (srcM (getM 2)) (putM 3) yesM (chainM leD ltD (pureM (.int 0)) (getM 3) (getM 0)) [3])) (pureM []))))) (notM (asB (opN allD (consM (lstM (lcM (srcA zipD (consM (getM 2) (consM (sliceM (getM 2) (partM (pureM (.int 1))) (pureM none)) (pureM [])))) (tupG 2 (gConsM (putM 3) (gConsM (putM 4) gNilM))) yesM (op2 ltD (getM 3) (getM 4)) [3, 4])) (pureM []))))))
  (seqM (raiseM "NotAllowed")
  nextM)
  nextM)
  (seqM (retM (pureM .none))
  nextM))))
def h_check_case : FnM := fn 3 5 m_check_case
theorem cal_check_case (T : Txt K mg) (D : DefD K mg "check_case" s_check_case ["many", "depth", "liars"])  : CalD P w K mg base "check_case" 1 h_check_case := by
  have nd := sc_check_case.nd
  refine D.cal (k := 0) sc_check_case rfl fun f stc cdv A outer s H E hr hgu hu => ?_
  exact (sscons (sif (tw (wor (tcmp op_gt v2_gt (gv 0) (gglobI T.c_MAX_FOLK)) (wor1 (tcmp op_gt v2_gt (gv 1) (gglobI T.c_MAX_DEEP)))))
  (sscons (sraise rfl (L2N.takes_of rfl rfl rfl rfl) T.x_TooLarge)
  ssnil)
  ssnil)
  (sscons (sif (tw (wor (tcmp op_lt v2_lt (gv 0) gint) (wor1 (tcmp op_lt v2_lt (gv 1) gint))))
  (sscons (sraise rfl (L2N.takes_of rfl rfl rfl rfl) T.x_NotAllowed)
  ssnil)
  ssnil)
  (sscons (sif (tw (wor (tnot (tval (gcb (cr_all rfl) vn_all boot_all T.n_all (acons (gF (flc [("one", 3)] rfl nd (blkOk_by (N := N_check_case) (sc := defScope s_check_case) (by decide +kernel)) (ilist (gv 2)) (fun _ _ _ _ _ => (hname 3 nd)) (fun _ _ _ _ _ => tsnil) (fun _ _ _ _ _ => (gchain op_le v2_le op_lt v2_lt gint (gv 3) (gv 0))))) anil)))) (wor1 (tnot (tval (gcb (cr_all rfl) vn_all boot_all T.n_all (acons (gF (flc [("one", 3), ("other", 4)] rfl nd (blkOk_by (N := N_check_case) (sc := defScope s_check_case) (by decide +kernel)) (izip T.n_zip (acons (gv 2) (acons (gslice (gv 2) (osome gint) ono) anil))) (fun _ _ _ _ _ => (htup 2 rfl (hcons (hname 3 nd) (hcons (hname 4 nd) hnil)))) (fun _ _ _ _ _ => tsnil) (fun _ _ _ _ _ => (gcmp op_lt v2_lt (gv 3) (gv 4))))) anil)))))))
  (sscons (sraise rfl (L2N.takes_of rfl rfl rfl rfl) T.x_NotAllowed)
  ssnil)
  ssnil)
  (sscons (sret gnon)
  ssnil))))
/-! known_words -/
abbrev s_known_words : Stmt := topS 12
abbrev N_known_words : List Str := ["many", "depth", "found", "line", "_", "row", "one"]
theorem sc_known_words : FnScope N_known_words ["many", "depth"] (defScope s_known_words) := ⟨rfl, rfl, rfl, by decide +kernel, rfl, by decide +kernel, by decide +kernel⟩
def m_known_words (ns : List Int) : M Fl :=
  (seqM (parO 2 3 (lstM (guardL (consM (tupM (consM (pureM (.int 0)) (pureM []))) (pureM [])))))
  (seqM (forS (srcA rng1 (consM (op2 addD (getM 1) (pureM (.int 1))) (pureM []))) (putM 4)
  (seqM (asgM (lstM (lc2M (srcM (getM 3)) (putM 5) yesM (srcA rng1 (consM (getM 0) (pureM []))) (putM 6) (asB (op2 (inD true) (getM 6) (getM 5))) (tupM (starM (getM 5) (consM (getM 6) (pureM [])))) [5, 6] [6])) (putM 3))
  (seqM (extM 2 (getM 3))
  nextM)))
  (seqM (retM (getM 2))
  nextM)))
def h_known_words : FnM := fn 2 7 m_known_words
theorem cal_known_words (T : Txt K mg) (D : DefD K mg "known_words" s_known_words ["many", "depth"])  : CalD P w K mg base "known_words" 1 h_known_words := by
  have nd := sc_known_words.nd
  refine D.cal (k := 0) sc_known_words rfl fun f stc cdv A outer s H E hr hgu hu => ?_
  exact (sscons (sparO 2 3 rfl nd (glst (acons (gtup (acons gint anil)) anil)))
  (sscons (sfor (L2.passes_of rfl) rfl (irng1 T.n_range (acons (gadd (gv 1) gint) anil)) (hname 4 nd)
  (sscons (slc2 3 [("row", 5), ("one", 6)] [6] .dat rfl nd (blkOk_by (N := N_known_words) (sc := defScope s_known_words) (by decide +kernel)) (sw_true rfl rfl rfl (by decide +kernel)) (ilist (gv 3)) (fun _ _ _ _ _ => (hname 5 nd)) (fun _ _ _ _ _ => tsnil) (fun _ _ _ _ _ => (irng1 T.n_range (acons (gv 0) anil))) (fun _ _ _ _ _ => (hname 6 nd)) (fun _ _ _ _ _ => (tsone (tcmp (op_notInX hu) v2_in (gv 6) (gv 5)))) (fun _ _ _ _ _ => (gtup (astar (gv 5) (acons (gv 6) anil)))))
  (sscons (sext 2 (gv 3))
  ssnil)))
  (sscons (sret (gv 2))
  ssnil)))
/-! known_lying -/
abbrev s_known_lying : Stmt := topS 13
abbrev N_known_lying : List Str := ["many", "depth", "liars", "row"]
theorem sc_known_lying : FnScope N_known_lying ["many", "depth", "liars"] (defScope s_known_lying) := ⟨rfl, rfl, rfl, by decide +kernel, rfl, by decide +kernel, by decide +kernel⟩
def m_known_lying (ns : List Int) : M Fl :=
  (seqM (retM (lstM (lcM (srcM (callM h_known_words ns (datsM (consM (getM 0) (consM (getM 1) (pureM [])))))) (putM 3) (asB (op2 (inD false) (op2 ixD (getM 3) (op1 negD (pureM (.int 2)))) (getM 2))) (getM 3) [3])))
  nextM)
def h_known_lying : FnM := fn 3 4 m_known_lying
theorem cal_known_lying (T : Txt K mg) (D : DefD K mg "known_lying" s_known_lying ["many", "depth", "liars"]) (c_known_words : CalD P w K mg base "known_words" 1 h_known_words) : CalD P w K mg base "known_lying" 2 h_known_lying := by
  have nd := sc_known_lying.nd
  refine D.cal (k := 1) sc_known_lying rfl fun f stc cdv A outer s H E hr hgu hu => ?_
  exact (sscons (sret (gF (flc [("row", 3)] rfl nd (blkOk_by (N := N_known_lying) (sc := defScope s_known_lying) (by decide +kernel)) (ilist (gcall c_known_words (hr.mono (by decide)) hgu (exB (L2N.takes_of rfl rfl rfl rfl)) (xdat (acons (gv 0) (acons (gv 1) anil))))) (fun _ _ _ _ _ => (hname 3 nd)) (fun _ _ _ _ _ => (tsone (tcmp (op_inX hu) v2_in (gix (gv 3) (gneg gint)) (gv 2)))) (fun _ _ _ _ _ => (gv 3)))))
  ssnil)
/-! known_told -/
abbrev s_known_told : Stmt := topS 14
abbrev N_known_told : List Str := ["many", "depth", "liars", "order", "lies", "said", "found", "row", "one"]
theorem sc_known_told : FnScope N_known_told ["many", "depth", "liars", "order", "lies"] (defScope s_known_told) := ⟨rfl, rfl, rfl, by decide +kernel, rfl, by decide +kernel, by decide +kernel⟩
def m_known_told (ns : List Int) : M Fl :=
  (seqM (asgD (dcM (srcA zipD (consM (callM h_known_lying ns (datsM (consM (getM 0) (consM (getM 1) (consM (getM 2) (pureM [])))))) (consM (getM 4) (pureM [])))) (tupG 2 (gConsM (putM 7) (gConsM (putM 8) gNilM))) yesM (getM 7) (getM 8) [7, 8]) 5)
  (seqM (asgD (disp1M (tupM (consM (pureM (.int 0)) (pureM []))) (getM 3)) 6)
  (seqM (forS (srcM (callM h_known_words ns (datsM (consM (getM 0) (consM (getM 1) (pureM [])))))) (putM 7)
  (seqM (dputM 6 (getM 7) (dget2V 5 (getM 7) (dgetV 6 (sliceM (getM 7) (pureM none) (partM (op1 negD (pureM (.int 1))))))))
  nextM))
  (seqM (retM (getM 6))
  nextM))))
def h_known_told : FnM := fn 5 9 m_known_told
theorem cal_known_told (T : Txt K mg) (D : DefD K mg "known_told" s_known_told ["many", "depth", "liars", "order", "lies"]) (c_known_words : CalD P w K mg base "known_words" 1 h_known_words) (c_known_lying : CalD P w K mg base "known_lying" 2 h_known_lying) : CalD P w K mg base "known_told" 3 h_known_told := by
  have nd := sc_known_told.nd
  refine D.cal (k := 2) sc_known_told rfl fun f stc cdv A outer s H E hr hgu hu => ?_
  exact (sscons (sdc 5 [("row", 7), ("one", 8)] hu rfl nd (blkOk_by (N := N_known_told) (sc := defScope s_known_told) (by decide +kernel)) (sw_trueD rfl rfl rfl (by decide +kernel)) (izip T.n_zip (acons (gcall c_known_lying (hr.mono (by decide)) hgu (exB (L2N.takes_of rfl rfl rfl rfl)) (xdat (acons (gv 0) (acons (gv 1) (acons (gv 2) anil))))) (acons (gv 4) anil))) (fun _ _ _ _ _ => (htup 2 rfl (hcons (hname 7 nd) (hcons (hname 8 nd) hnil)))) (fun _ _ _ _ _ => tsnil) (fun _ _ _ _ _ => (gv 7)) (fun _ _ _ _ _ => (gv 8)))
  (sscons (ssetD 6 nd (ddisp1 hu (gtup (acons gint anil)) (gv 3)))
  (sscons (sfor (L2.passes_of rfl) rfl (ilist (gcall c_known_words (hr.mono (by decide)) hgu (exB (L2N.takes_of rfl rfl rfl rfl)) (xdat (acons (gv 0) (acons (gv 1) anil))))) (hname 7 nd)
  (sscons (sdput hu 6 (gv 7) (gget2V hu 5 (gv 7) (gdgetV hu 6 (gslice (gv 7) ono (osome (gneg gint)))) ⟨rfl, rfl, rfl, rfl⟩))
  ssnil))
  (sscons (sret (gv 6))
  ssnil))))
/-! most -/
abbrev s_most : Stmt := topS 15
abbrev N_most : List Str := ["values"]
theorem sc_most : FnScope N_most ["values"] (defScope s_most) := ⟨rfl, rfl, rfl, by decide +kernel, rfl, by decide +kernel, by decide +kernel⟩
def m_most (ns : List Int) : M Fl :=
  (seqM (retM (opN intD (consM (op2 gtD (op2 mulXD (pureM (.int 2)) (opN sumD (consM (getM 0) (pureM [])))) (opN lenD (consM (getM 0) (pureM [])))) (pureM []))))
  nextM)
def h_most : FnM := fn 1 1 m_most
theorem cal_most (T : Txt K mg) (D : DefD K mg "most" s_most ["values"])  : CalD P w K mg base "most" 1 h_most := by
  have nd := sc_most.nd
  refine D.cal (k := 0) sc_most rfl fun f stc cdv A outer s H E hr hgu hu => ?_
  exact (sscons (sret (gct call_int1 vn_int PyProof.Rows.boot_int T.n_int (acons (gcmp op_gt v2_gt (gmul gint (gcb (cr_sum rfl) vn_sum boot_sum T.n_sum (acons (gv 0) anil))) (gcb call_len vn_len PySem.boot_len T.n_len (acons (gv 0) anil))) anil)))
  ssnil)
/-! settled -/
abbrev s_settled : Stmt := topS 16
abbrev N_settled : List Str := ["many", "told", "row", "node", "left", "own", "others", "one"]
theorem sc_settled : FnScope N_settled ["many", "told", "row", "node", "left"] (defScope s_settled) := ⟨rfl, rfl, rfl, by decide +kernel, rfl, by decide +kernel, by decide +kernel⟩
def m_settled (self : FnM) (ns : List Int) : M Fl :=
  (seqM (asgM (op2 dgetD (getM 1) (op2 addD (getM 2) (tupM (consM (getM 3) (pureM []))))) (putM 5))
  (seqM (ifM (asB (op2 eqD (getM 4) (pureM (.int 0))))
  (seqM (retM (getM 5))
  nextM)
  nextM)
  (seqM (asgM (lstM (lcM (srcA rng1 (consM (getM 0) (pureM []))) (putM 7) (andM (asB (op2 (inD true) (getM 7) (getM 2))) (asB (op2 neD (getM 7) (getM 3)))) (getM 7) [7])) (putM 6))
  (seqM (retM (callM h_most ns (datsM (consM (lstM (guardL (consM (getM 5) (starM (lstM (lcM (srcM (getM 6)) (putM 7) yesM (callM self ns (datsM (consM (getM 0) (consM (getM 1) (consM (tupM (starM (getM 2) (consM (getM 7) (pureM [])))) (consM (getM 3) (consM (op2 subD (getM 4) (pureM (.int 1))) (pureM [])))))))) [7])) (pureM []))))) (pureM [])))))
  nextM))))
def hr_settled : Nat → FnM
  | 0 => fun _ _ _ => .bad
  | j + 1 => fn 5 8 (m_settled (hr_settled j))
def h_settled : FnM := hr_settled 4
theorem cal_settled (T : Txt K mg) (D : DefD K mg "settled" s_settled ["many", "told", "row", "node", "left"]) (c_most : CalD P w K mg base "most" 1 h_most) : CalD P w K mg base "settled" 5 h_settled := by
  have nd := sc_settled.nd
  refine D.rec_ (k := 1) sc_settled rfl rfl (fun _ => rfl) (fun j cself f stc cdv A outer s H E hr hgu hu => ?_) 4
  exact (sscons (sset 5 nd (gdget hu (gv 1) (gadd (gv 2) (gtup (acons (gv 3) anil)))))
  (sscons (sif (tcmp (op_eqD (u64 hu)) v2_eq (gv 4) gint)
  (sscons (sret (gv 5))
  ssnil)
  ssnil)
  (sscons (slc 6 [("one", 7)] .dat rfl nd (blkOk_by (N := N_settled) (sc := defScope s_settled) (by decide +kernel)) (sw_true rfl rfl rfl (by decide +kernel)) (irng1 T.n_range (acons (gv 0) anil)) (fun _ _ _ _ _ => (hname 7 nd)) (fun _ _ _ _ _ => (tsone (tw (wand (tcmp (op_notInX hu) v2_in (gv 7) (gv 2)) (wand1 (tcmp (op_neD (u64 hu)) v2_ne (gv 7) (gv 3))))))) (fun _ _ _ _ _ => (gv 7)))
  (sscons (sret (gcall c_most (hr.mono (by omega)) hgu (exB (L2N.takes_of rfl rfl rfl rfl)) (xdat (acons (glst (acons (gv 5) (astar (gF (flc [("one", 7)] rfl nd (blkOk_by (N := N_settled) (sc := defScope s_settled) (by decide +kernel)) (ilist (gv 6)) (fun _ _ _ _ _ => (hname 7 nd)) (fun _ _ _ _ _ => tsnil) (fun _ _ _ _ _ => (gcall cself hr hgu exq (xdat (acons (gv 0) (acons (gv 1) (acons (gtup (astar (gv 2) (acons (gv 7) anil))) (acons (gv 3) (acons (gsub (gv 4) gint) anil)))))))))) anil))) anil))))
  ssnil))))
/-! known_decided -/
abbrev s_known_decided : Stmt := topS 17
abbrev N_known_decided : List Str := ["many", "depth", "liars", "order", "lies", "told", "node"]
theorem sc_known_decided : FnScope N_known_decided ["many", "depth", "liars", "order", "lies"] (defScope s_known_decided) := ⟨rfl, rfl, rfl, by decide +kernel, rfl, by decide +kernel, by decide +kernel⟩
def m_known_decided (ns : List Int) : M Fl :=
  (seqM (asgM (callM h_known_told ns (datsM (consM (getM 0) (consM (getM 1) (consM (getM 2) (consM (getM 3) (consM (getM 4) (pureM [])))))))) (putM 5))
  (seqM (retM (tupM (consM (getM 3) (starM (lstM (lcM (srcA rng2 (consM (pureM (.int 1)) (consM (getM 0) (pureM [])))) (putM 6) yesM (callM h_settled ns (datsM (consM (getM 0) (consM (getM 5) (consM (tupM (consM (pureM (.int 0)) (pureM []))) (consM (getM 6) (consM (getM 1) (pureM [])))))))) [6])) (pureM [])))))
  nextM))
def h_known_decided : FnM := fn 5 7 m_known_decided
theorem cal_known_decided (T : Txt K mg) (D : DefD K mg "known_decided" s_known_decided ["many", "depth", "liars", "order", "lies"]) (c_settled : CalD P w K mg base "settled" 5 h_settled) (c_known_told : CalD P w K mg base "known_told" 3 h_known_told) : CalD P w K mg base "known_decided" 6 h_known_decided := by
  have nd := sc_known_decided.nd
  refine D.cal (k := 5) sc_known_decided rfl fun f stc cdv A outer s H E hr hgu hu => ?_
  exact (sscons (sset 5 nd (gcall c_known_told (hr.mono (by decide)) hgu (exB (L2N.takes_of rfl rfl rfl rfl)) (xdat (acons (gv 0) (acons (gv 1) (acons (gv 2) (acons (gv 3) (acons (gv 4) anil))))))))
  (sscons (sret (gtup (acons (gv 3) (astar (gF (flc [("node", 6)] rfl nd (blkOk_by (N := N_known_decided) (sc := defScope s_known_decided) (by decide +kernel)) (irng2 T.n_range (acons gint (acons (gv 0) anil))) (fun _ _ _ _ _ => (hname 6 nd)) (fun _ _ _ _ _ => tsnil) (fun _ _ _ _ _ => (gcall c_settled (hr.mono (by decide)) hgu exq (xdat (acons (gv 0) (acons (gv 5) (acons (gtup (acons gint anil)) (acons (gv 6) (acons (gv 1) anil)))))))))) anil))))
  ssnil))
/-! is_kept -/
abbrev s_is_kept : Stmt := topS 18
abbrev N_is_kept : List Str := ["liars", "order", "row", "good", "node", "one"]
theorem sc_is_kept : FnScope N_is_kept ["liars", "order", "row"] (defScope s_is_kept) := ⟨rfl, rfl, rfl, by decide +kernel, rfl, by decide +kernel, by decide +kernel⟩
def m_is_kept (ns : List Int) : M Fl :=
  (seqM (asgM (lstM (lcM (srcA enumD (consM (getM 2) (pureM []))) (tupG 2 (gConsM (putM 4) (gConsM (putM 5) gNilM))) (asB (op2 (inD true) (getM 4) (getM 0))) (getM 5) [4, 5])) (putM 3))
  (seqM (retM (andV (opN allD (consM (lstM (lcM (srcM (getM 3)) (putM 5) yesM (op2 eqD (getM 5) (op2 ixD (getM 3) (pureM (.int 0)))) [5])) (pureM []))) (orV (op2 (inD false) (pureM (.int 0)) (getM 0)) (opN allD (consM (lstM (lcM (srcM (getM 3)) (putM 5) yesM (op2 eqD (getM 5) (getM 1)) [5])) (pureM []))))))
  nextM))
def h_is_kept : FnM := fn 3 6 m_is_kept
theorem cal_is_kept (T : Txt K mg) (D : DefD K mg "is_kept" s_is_kept ["liars", "order", "row"])  : CalD P w K mg base "is_kept" 1 h_is_kept := by
  have nd := sc_is_kept.nd
  refine D.cal (k := 0) sc_is_kept rfl fun f stc cdv A outer s H E hr hgu hu => ?_
  exact (sscons (sset 3 nd (gF (flc [("node", 4), ("one", 5)] rfl nd (blkOk_by (N := N_is_kept) (sc := defScope s_is_kept) (by decide +kernel)) (ienum T.n_enumerate (acons (gv 2) anil)) (fun _ _ _ _ _ => (htup 2 rfl (hcons (hname 4 nd) (hcons (hname 5 nd) hnil)))) (fun _ _ _ _ _ => (tsone (tcmp (op_notInX hu) v2_in (gv 4) (gv 0)))) (fun _ _ _ _ _ => (gv 5)))))
  (sscons (sret (gand (gcb (cr_all rfl) vn_all boot_all T.n_all (acons (gF (flc [("one", 5)] rfl nd (blkOk_by (N := N_is_kept) (sc := defScope s_is_kept) (by decide +kernel)) (ilist (gv 3)) (fun _ _ _ _ _ => (hname 5 nd)) (fun _ _ _ _ _ => tsnil) (fun _ _ _ _ _ => (gcmp (op_eqD (u64 hu)) v2_eq (gv 5) (gix (gv 3) gint))))) anil)) (gone (gor (gcmp (op_inX hu) v2_in gint (gv 0)) (gone (gcb (cr_all rfl) vn_all boot_all T.n_all (acons (gF (flc [("one", 5)] rfl nd (blkOk_by (N := N_is_kept) (sc := defScope s_is_kept) (by decide +kernel)) (ilist (gv 3)) (fun _ _ _ _ _ => (hname 5 nd)) (fun _ _ _ _ _ => tsnil) (fun _ _ _ _ _ => (gcmp (op_eqD (u64 hu)) v2_eq (gv 5) (gv 1))))) anil)))))))
  ssnil))
/-! all_lies -/
abbrev s_all_lies : Stmt := topS 19
abbrev N_all_lies : List Str := ["size", "found", "_", "row", "one"]
theorem sc_all_lies : FnScope N_all_lies ["size"] (defScope s_all_lies) := ⟨rfl, rfl, rfl, by decide +kernel, rfl, by decide +kernel, by decide +kernel⟩
def m_all_lies (ns : List Int) : M Fl :=
  (seqM (asgM (lstM (guardL (consM (tupM (pureM [])) (pureM [])))) (putM 1))
  (seqM (forS (srcA rng1 (consM (getM 0) (pureM []))) (putM 2)
  (seqM (asgM (lstM (lc2M (srcM (getM 1)) (putM 3) yesM (srcM (tupM (consM (pureM (.int 0)) (consM (pureM (.int 1)) (pureM []))))) (putM 4) yesM (tupM (starM (getM 3) (consM (getM 4) (pureM [])))) [3, 4] [4])) (putM 1))
  nextM))
  (seqM (retM (getM 1))
  nextM)))
def h_all_lies : FnM := fn 1 5 m_all_lies
theorem cal_all_lies (T : Txt K mg) (D : DefD K mg "all_lies" s_all_lies ["size"])  : CalD P w K mg base "all_lies" 1 h_all_lies := by
  have nd := sc_all_lies.nd
  refine D.cal (k := 0) sc_all_lies rfl fun f stc cdv A outer s H E hr hgu hu => ?_
  exact (sscons (sset 1 nd (glst (acons (gtup anil) anil)))
  (sscons (sfor (L2.passes_of rfl) rfl (irng1 T.n_range (acons (gv 0) anil)) (hname 2 nd)
  (sscons (slc2 1 [("row", 3), ("one", 4)] [4] .dat rfl nd (blkOk_by (N := N_all_lies) (sc := defScope s_all_lies) (by decide +kernel)) (sw_true rfl rfl rfl (by decide +kernel)) (ilist (gv 1)) (fun _ _ _ _ _ => (hname 3 nd)) (fun _ _ _ _ _ => tsnil) (fun _ _ _ _ _ => (ilist (gtup (acons gint (acons gint anil))))) (fun _ _ _ _ _ => (hname 4 nd)) (fun _ _ _ _ _ => tsnil) (fun _ _ _ _ _ => (gtup (astar (gv 3) (acons (gv 4) anil)))))
  ssnil))
  (sscons (sret (gv 1))
  ssnil)))
/-! found_lies -/
abbrev s_found_lies : Stmt := topS 20
abbrev N_found_lies : List Str := ["many", "depth", "liars", "size", "order", "lies"]
theorem sc_found_lies : FnScope N_found_lies ["many", "depth", "liars"] (defScope s_found_lies) := ⟨rfl, rfl, rfl, by decide +kernel, rfl, by decide +kernel, by decide +kernel⟩
def m_found_lies (ns : List Int) : M Fl :=
  (seqM (asgM (opN lenD (consM (callM h_known_lying ns (datsM (consM (getM 0) (consM (getM 1) (consM (getM 2) (pureM [])))))) (pureM []))) (putM 3))
  (seqM (ifM (asB (op2 gtD (getM 3) (pureM (.int 10))))
  (seqM (raiseM "TooLarge")
  nextM)
  nextM)
  (seqM (forS (srcM (tupM (consM (pureM (.int 0)) (consM (pureM (.int 1)) (pureM []))))) (putM 4)
  (seqM (forS (srcM (callM h_all_lies ns (datsM (consM (getM 3) (pureM []))))) (putM 5)
  (seqM (ifM (notM (asB (callM h_is_kept ns (datsM (consM (getM 2) (consM (getM 4) (consM (callM h_known_decided ns (datsM (consM (getM 0) (consM (getM 1) (consM (getM 2) (consM (getM 4) (consM (getM 5) (pureM [])))))))) (pureM []))))))))
  (seqM (retM (tupM (consM (getM 4) (consM (getM 5) (pureM [])))))
  nextM)
  nextM)
  nextM))
  nextM))
  (seqM (retM (pureM .none))
  nextM))))
def h_found_lies : FnM := fn 3 6 m_found_lies
theorem cal_found_lies (T : Txt K mg) (D : DefD K mg "found_lies" s_found_lies ["many", "depth", "liars"]) (c_all_lies : CalD P w K mg base "all_lies" 1 h_all_lies) (c_known_decided : CalD P w K mg base "known_decided" 6 h_known_decided) (c_is_kept : CalD P w K mg base "is_kept" 1 h_is_kept) (c_known_lying : CalD P w K mg base "known_lying" 2 h_known_lying) : CalD P w K mg base "found_lies" 7 h_found_lies := by
  have nd := sc_found_lies.nd
  refine D.cal (k := 6) sc_found_lies rfl fun f stc cdv A outer s H E hr hgu hu => ?_
  exact (sscons (sset 3 nd (gcb call_len vn_len PySem.boot_len T.n_len (acons (gcall c_known_lying (hr.mono (by decide)) hgu (exB (L2N.takes_of rfl rfl rfl rfl)) (xdat (acons (gv 0) (acons (gv 1) (acons (gv 2) anil))))) anil)))
  (sscons (sif (tcmp op_gt v2_gt (gv 3) (gglobI T.c_MAX_LIES))
  (sscons (sraise rfl (L2N.takes_of rfl rfl rfl rfl) T.x_TooLarge)
  ssnil)
  ssnil)
  (sscons (sfor (L2.passes_of rfl) rfl (ilist (gtup (acons gint (acons gint anil)))) (hname 4 nd)
  (sscons (sfor (L2.passes_of rfl) rfl (ilist (gcall c_all_lies (hr.mono (by decide)) hgu (exB (L2N.takes_of rfl rfl rfl rfl)) (xdat (acons (gv 3) anil)))) (hname 5 nd)
  (sscons (sif (tnot (tval (gcall c_is_kept (hr.mono (by decide)) hgu (exB (L2N.takes_of rfl rfl rfl rfl)) (xdat (acons (gv 2) (acons (gv 4) (acons (gcall c_known_decided (hr.mono (by decide)) hgu (exB (L2N.takes_of rfl rfl rfl rfl)) (xdat (acons (gv 0) (acons (gv 1) (acons (gv 2) (acons (gv 4) (acons (gv 5) anil))))))) anil)))))))
  (sscons (sret (gtup (acons (gv 4) (acons (gv 5) anil))))
  ssnil)
  ssnil)
  ssnil))
  ssnil))
  (sscons (sret gnon)
  ssnil))))
/-! is_safe -/
abbrev s_is_safe : Stmt := topS 21
abbrev N_is_safe : List Str := ["many", "depth", "liars"]
theorem sc_is_safe : FnScope N_is_safe ["many", "depth", "liars"] (defScope s_is_safe) := ⟨rfl, rfl, rfl, by decide +kernel, rfl, by decide +kernel, by decide +kernel⟩
def m_is_safe (ns : List Int) : M Fl :=
  (seqM (dropM (callM h_check_case ns (datsM (consM (getM 0) (consM (getM 1) (consM (getM 2) (pureM [])))))))
  (seqM (retM (op2 (isND false) (callM h_found_lies ns (datsM (consM (getM 0) (consM (getM 1) (consM (getM 2) (pureM [])))))) (pureM .none)))
  nextM))
def h_is_safe : FnM := fn 3 3 m_is_safe
theorem cal_is_safe (T : Txt K mg) (D : DefD K mg "is_safe" s_is_safe ["many", "depth", "liars"]) (c_found_lies : CalD P w K mg base "found_lies" 7 h_found_lies) (c_check_case : CalD P w K mg base "check_case" 1 h_check_case) : CalD P w K mg base "is_safe" 8 h_is_safe := by
  have nd := sc_is_safe.nd
  refine D.cal (k := 7) sc_is_safe rfl fun f stc cdv A outer s H E hr hgu hu => ?_
  exact (sscons (sexpr (gcall c_check_case (hr.mono (by decide)) hgu (exB (L2N.takes_of rfl rfl rfl rfl)) (xdat (acons (gv 0) (acons (gv 1) (acons (gv 2) anil))))))
  (sscons (sret (gcmp op_isN v2_isN (gcall c_found_lies (hr.mono (by decide)) hgu (exB (L2N.takes_of rfl rfl rfl rfl)) (xdat (acons (gv 0) (acons (gv 1) (acons (gv 2) anil))))) gnon))
  ssnil))
/-! first_lies -/
abbrev s_first_lies : Stmt := topS 22
abbrev N_first_lies : List Str := ["many", "depth", "liars", "found"]
theorem sc_first_lies : FnScope N_first_lies ["many", "depth", "liars"] (defScope s_first_lies) := ⟨rfl, rfl, rfl, by decide +kernel, rfl, by decide +kernel, by decide +kernel⟩
def m_first_lies (ns : List Int) : M Fl :=
  (seqM (dropM (callM h_check_case ns (datsM (consM (getM 0) (consM (getM 1) (consM (getM 2) (pureM [])))))))
  (seqM (asgM (callM h_found_lies ns (datsM (consM (getM 0) (consM (getM 1) (consM (getM 2) (pureM [])))))) (putM 3))
  (seqM (ifM (asB (op2 (isND false) (getM 3) (pureM .none)))
  (seqM (raiseM "Missing")
  nextM)
  nextM)
  (seqM (retM (getM 3))
  nextM))))
def h_first_lies : FnM := fn 3 4 m_first_lies
theorem cal_first_lies (T : Txt K mg) (D : DefD K mg "first_lies" s_first_lies ["many", "depth", "liars"]) (c_found_lies : CalD P w K mg base "found_lies" 7 h_found_lies) (c_check_case : CalD P w K mg base "check_case" 1 h_check_case) : CalD P w K mg base "first_lies" 8 h_first_lies := by
  have nd := sc_first_lies.nd
  refine D.cal (k := 7) sc_first_lies rfl fun f stc cdv A outer s H E hr hgu hu => ?_
  exact (sscons (sexpr (gcall c_check_case (hr.mono (by decide)) hgu (exB (L2N.takes_of rfl rfl rfl rfl)) (xdat (acons (gv 0) (acons (gv 1) (acons (gv 2) anil))))))
  (sscons (sset 3 nd (gcall c_found_lies (hr.mono (by decide)) hgu (exB (L2N.takes_of rfl rfl rfl rfl)) (xdat (acons (gv 0) (acons (gv 1) (acons (gv 2) anil))))))
  (sscons (sif (tcmp op_isN v2_isN (gv 3) gnon)
  (sscons (sraise rfl (L2N.takes_of rfl rfl rfl rfl) T.x_Missing)
  ssnil)
  ssnil)
  (sscons (sret (gv 3))
  ssnil))))
/-! check_broken -/
abbrev s_check_broken : Stmt := topS 23
abbrev N_check_broken : List Str := ["many", "depth", "liars", "paper", "one"]
theorem sc_check_broken : FnScope N_check_broken ["many", "depth", "liars", "paper"] (defScope s_check_broken) := ⟨rfl, rfl, rfl, by decide +kernel, rfl, by decide +kernel, by decide +kernel⟩
def m_check_broken (ns : List Int) : M Fl :=
  (seqM (dropM (callM h_check_case ns (datsM (consM (getM 0) (consM (getM 1) (consM (getM 2) (pureM [])))))))
  (seqM (ifM (orM (asB (op2 neD (opN lenD (consM (getM 3) (pureM []))) (pureM (.int 2)))) (orM (asB (op2 (inD true) (op2 ixD (getM 3) (pureM (.int 0))) (tupM (consM (pureM (.int 0)) (consM (pureM (.int 1)) (pureM [])))))) (asB (op2 neD (opN lenD (consM (op2 ixD (getM 3) (pureM (.int 1))) (pureM []))) (opN lenD (consM (callM h_known_lying ns (datsM (consM (getM 0) (consM (getM 1) (consM (getM 2) (pureM [])))))) (pureM [])))))))
  (seqM (raiseM "BadPaper")
  nextM)
  nextM)
  (seqM (ifM (notM (asB (opN allD (consM (lstM (lcM (srcM (op2 ixD (getM 3) (pureM (.int 1)))) (putM 4) yesM (op2 (inD false) (getM 4) (tupM (consM (pureM (.int 0)) (consM (pureM (.int 1)) (pureM []))))) [4])) (pureM [])))))
  (seqM (raiseM "BadPaper")
  nextM)
  nextM)
  (seqM (ifM (asB (callM h_is_kept ns (datsM (consM (getM 2) (consM (op2 ixD (getM 3) (pureM (.int 0))) (consM (callM h_known_decided ns (datsM (consM (getM 0) (consM (getM 1) (consM (getM 2) (consM (op2 ixD (getM 3) (pureM (.int 0))) (consM (op2 ixD (getM 3) (pureM (.int 1))) (pureM [])))))))) (pureM [])))))))
  (seqM (raiseM "BadPaper")
  nextM)
  nextM)
  (seqM (retM (pureM (.bool true)))
  nextM)))))
def h_check_broken : FnM := fn 4 5 m_check_broken
theorem cal_check_broken (T : Txt K mg) (D : DefD K mg "check_broken" s_check_broken ["many", "depth", "liars", "paper"]) (c_known_decided : CalD P w K mg base "known_decided" 6 h_known_decided) (c_is_kept : CalD P w K mg base "is_kept" 1 h_is_kept) (c_known_lying : CalD P w K mg base "known_lying" 2 h_known_lying) (c_check_case : CalD P w K mg base "check_case" 1 h_check_case) : CalD P w K mg base "check_broken" 7 h_check_broken := by
  have nd := sc_check_broken.nd
  refine D.cal (k := 6) sc_check_broken rfl fun f stc cdv A outer s H E hr hgu hu => ?_
  exact (sscons (sexpr (gcall c_check_case (hr.mono (by decide)) hgu (exB (L2N.takes_of rfl rfl rfl rfl)) (xdat (acons (gv 0) (acons (gv 1) (acons (gv 2) anil))))))
  (sscons (sif (tw (wor (tcmp (op_neD (u64 hu)) v2_ne (gcb call_len vn_len PySem.boot_len T.n_len (acons (gv 3) anil)) gint) (wor (tcmp (op_notInX hu) v2_in (gix (gv 3) gint) (gtup (acons gint (acons gint anil)))) (wor1 (tcmp (op_neD (u64 hu)) v2_ne (gcb call_len vn_len PySem.boot_len T.n_len (acons (gix (gv 3) gint) anil)) (gcb call_len vn_len PySem.boot_len T.n_len (acons (gcall c_known_lying (hr.mono (by decide)) hgu (exB (L2N.takes_of rfl rfl rfl rfl)) (xdat (acons (gv 0) (acons (gv 1) (acons (gv 2) anil))))) anil)))))))
  (sscons (sraise rfl (L2N.takes_of rfl rfl rfl rfl) T.x_BadPaper)
  ssnil)
  ssnil)
  (sscons (sif (tnot (tval (gcb (cr_all rfl) vn_all boot_all T.n_all (acons (gF (flc [("one", 4)] rfl nd (blkOk_by (N := N_check_broken) (sc := defScope s_check_broken) (by decide +kernel)) (ilist (gix (gv 3) gint)) (fun _ _ _ _ _ => (hname 4 nd)) (fun _ _ _ _ _ => tsnil) (fun _ _ _ _ _ => (gcmp (op_inX hu) v2_in (gv 4) (gtup (acons gint (acons gint anil))))))) anil))))
  (sscons (sraise rfl (L2N.takes_of rfl rfl rfl rfl) T.x_BadPaper)
  ssnil)
  ssnil)
  (sscons (sif (tval (gcall c_is_kept (hr.mono (by decide)) hgu (exB (L2N.takes_of rfl rfl rfl rfl)) (xdat (acons (gv 2) (acons (gix (gv 3) gint) (acons (gcall c_known_decided (hr.mono (by decide)) hgu (exB (L2N.takes_of rfl rfl rfl rfl)) (xdat (acons (gv 0) (acons (gv 1) (acons (gv 2) (acons (gix (gv 3) gint) (acons (gix (gv 3) gint) anil))))))) anil))))))
  (sscons (sraise rfl (L2N.takes_of rfl rfl rfl rfl) T.x_BadPaper)
  ssnil)
  ssnil)
  (sscons (sret gbl)
  ssnil)))))
/-! unsafe_sets -/
abbrev s_unsafe_sets : Stmt := topS 24
abbrev N_unsafe_sets : List Str := ["many", "depth", "few", "rows", "_", "row", "one"]
theorem sc_unsafe_sets : FnScope N_unsafe_sets ["many", "depth", "few"] (defScope s_unsafe_sets) := ⟨rfl, rfl, rfl, by decide +kernel, rfl, by decide +kernel, by decide +kernel⟩
def m_unsafe_sets (ns : List Int) : M Fl :=
  (seqM (dropM (callM h_check_case ns (datsM (consM (getM 0) (consM (getM 1) (consM (tupM (pureM [])) (pureM [])))))))
  (seqM (ifM (asB (op2 gtD (getM 2) (getM 0)))
  (seqM (raiseM "TooLarge")
  nextM)
  nextM)
  (seqM (ifM (asB (op2 ltD (getM 2) (pureM (.int 0))))
  (seqM (raiseM "NotAllowed")
  nextM)
  nextM)
  (seqM (asgM (lstM (guardL (consM (tupM (pureM [])) (pureM [])))) (putM 3))
  (seqM (forS (srcA rng1 (consM (getM 2) (pureM []))) (putM 4)
  (seqM (asgM (lstM (lc2M (srcM (getM 3)) (putM 5) yesM (srcA rng2 (consM (op2 addD (ifM (asB (op2 gtD (opN lenD (consM (getM 5) (pureM []))) (pureM (.int 0)))) (op2 ixD (getM 5) (op1 negD (pureM (.int 1)))) (op1 negD (pureM (.int 1)))) (pureM (.int 1))) (consM (getM 0) (pureM [])))) (putM 6) yesM (tupM (starM (getM 5) (consM (getM 6) (pureM [])))) [5, 6] [6])) (putM 3))
  nextM))
  (seqM (retM (lstM (lcXM (srcM (getM 3)) (putM 5) (asB (op2 (isND true) (callM h_found_lies ns (datsM (consM (getM 0) (consM (getM 1) (consM (getM 5) (pureM [])))))) (pureM .none))) (getM 5) [5])))
  nextM))))))
def h_unsafe_sets : FnM := fn 3 7 m_unsafe_sets
theorem cal_unsafe_sets (T : Txt K mg) (D : DefD K mg "unsafe_sets" s_unsafe_sets ["many", "depth", "few"]) (c_found_lies : CalD P w K mg base "found_lies" 7 h_found_lies) (c_check_case : CalD P w K mg base "check_case" 1 h_check_case) : CalD P w K mg base "unsafe_sets" 8 h_unsafe_sets := by
  have nd := sc_unsafe_sets.nd
  refine D.cal (k := 7) sc_unsafe_sets rfl fun f stc cdv A outer s H E hr hgu hu => ?_
  exact (sscons (sexpr (gcall c_check_case (hr.mono (by decide)) hgu (exB (L2N.takes_of rfl rfl rfl rfl)) (xdat (acons (gv 0) (acons (gv 1) (acons (gtup anil) anil))))))
  (sscons (sif (tcmp op_gt v2_gt (gv 2) (gv 0))
  (sscons (sraise rfl (L2N.takes_of rfl rfl rfl rfl) T.x_TooLarge)
  ssnil)
  ssnil)
  (sscons (sif (tcmp op_lt v2_lt (gv 2) gint)
  (sscons (sraise rfl (L2N.takes_of rfl rfl rfl rfl) T.x_NotAllowed)
  ssnil)
  ssnil)
  (sscons (sset 3 nd (glst (acons (gtup anil) anil)))
  (sscons (sfor (L2.passes_of rfl) rfl (irng1 T.n_range (acons (gv 2) anil)) (hname 4 nd)
  (sscons (slc2 3 [("row", 5), ("one", 6)] [6] .dat rfl nd (blkOk_by (N := N_unsafe_sets) (sc := defScope s_unsafe_sets) (by decide +kernel)) (sw_true rfl rfl rfl (by decide +kernel)) (ilist (gv 3)) (fun _ _ _ _ _ => (hname 5 nd)) (fun _ _ _ _ _ => tsnil) (fun _ _ _ _ _ => (irng2 T.n_range (acons (gadd (gif (tcmp op_gt v2_gt (gcb call_len vn_len PySem.boot_len T.n_len (acons (gv 5) anil)) gint) (gix (gv 5) (gneg gint)) (gneg gint)) gint) (acons (gv 0) anil)))) (fun _ _ _ _ _ => (hname 6 nd)) (fun _ _ _ _ _ => tsnil) (fun _ _ _ _ _ => (gtup (astar (gv 5) (acons (gv 6) anil)))))
  ssnil))
  (sscons (sret (gF (flcX [("row", 5)] rfl rfl (L2N.takes_of rfl rfl rfl rfl) rfl nd (blkOk_by (N := N_unsafe_sets) (sc := defScope s_unsafe_sets) (by decide +kernel)) (ilist (gv 3)) (fun _ _ _ _ _ _ _ exb => ⟨(hname 5 nd), (tsone (tcmp op_notN v2_notN (gcall c_found_lies (hr.mono (by decide)) hgu exb (xdat (acons (gv 0) (acons (gv 1) (acons (gv 5) anil))))) gnon)), (gv 5)⟩))))
  ssnil))))))
/-! bears -/
abbrev s_bears : Stmt := topS 25
abbrev N_bears : List Str := ["many", "depth", "few"]
theorem sc_bears : FnScope N_bears ["many", "depth"] (defScope s_bears) := ⟨rfl, rfl, rfl, by decide +kernel, rfl, by decide +kernel, by decide +kernel⟩
def m_bears (ns : List Int) : M Fl :=
  (seqM (dropM (callM h_check_case ns (datsM (consM (getM 0) (consM (getM 1) (consM (tupM (pureM [])) (pureM [])))))))
  (seqM (asgM (pureM (.int 0)) (putM 2))
  (seqM (whileM 1000 (andM (asB (op2 ltD (getM 2) (getM 0))) (asB (op2 eqD (opN lenD (consM (callM h_unsafe_sets ns (datsM (consM (getM 0) (consM (getM 1) (consM (op2 addD (getM 2) (pureM (.int 1))) (pureM [])))))) (pureM []))) (pureM (.int 0)))))
  (seqM (augM 2 (i2D (fun _ _ => true) fun i j => .int (i + j)) (pureM (.int 1)))
  nextM))
  (seqM (retM (getM 2))
  nextM))))
def h_bears : FnM := fn 2 3 m_bears
theorem cal_bears (T : Txt K mg) (D : DefD K mg "bears" s_bears ["many", "depth"]) (c_unsafe_sets : CalD P w K mg base "unsafe_sets" 8 h_unsafe_sets) (c_check_case : CalD P w K mg base "check_case" 1 h_check_case) : CalD P w K mg base "bears" 9 h_bears := by
  have nd := sc_bears.nd
  refine D.cal (k := 8) sc_bears rfl fun f stc cdv A outer s H E hr hgu hu => ?_
  exact (sscons (sexpr (gcall c_check_case (hr.mono (by decide)) hgu (exB (L2N.takes_of rfl rfl rfl rfl)) (xdat (acons (gv 0) (acons (gv 1) (acons (gtup anil) anil))))))
  (sscons (sset 2 nd gint)
  (sscons (swhile 1000 (L2.passes_of rfl) (tw (wand (tcmp op_lt v2_lt (gv 2) (gv 0)) (wand1 (tcmp (op_eqD (u64 hu)) v2_eq (gcb call_len vn_len PySem.boot_len T.n_len (acons (gcall c_unsafe_sets (hr.mono (by decide)) hgu (exB (L2N.takes_of rfl rfl rfl rfl)) (xdat (acons (gv 0) (acons (gv 1) (acons (gadd (gv 2) gint) anil))))) anil)) gint))))
  (sscons (saug 2 nd ip_add v2_ipadd gint)
  ssnil))
  (sscons (sret (gv 2))
  ssnil))))
/-! _law_same -/
abbrev s_L_same : Stmt := topS 27
abbrev N_L_same : List Str := ["told", "due"]
theorem sc_L_same : FnScope N_L_same ["told", "due"] (defScope s_L_same) := ⟨rfl, rfl, rfl, by decide +kernel, rfl, by decide +kernel, by decide +kernel⟩
def m_L_same (ns : List Int) : M Fl :=
  (seqM (retM (op2 eqD (opN reprD (consM (lstM (guardL (consM (getM 0) (pureM [])))) (pureM []))) (opN reprD (consM (lstM (guardL (consM (getM 1) (pureM [])))) (pureM [])))))
  nextM)
def h_L_same : FnM := fn 2 2 m_L_same
theorem cal_L_same (T : Txt K mg) (D : DefD K mg "_law_same" s_L_same ["told", "due"])  : CalD P w K mg base "_law_same" 1 h_L_same := by
  have nd := sc_L_same.nd
  refine D.cal (k := 0) sc_L_same rfl fun f stc cdv A outer s H E hr hgu hu => ?_
  exact (sscons (sret (gcmp (op_eqD (u64 hu)) v2_eq (gcb (call_repr hgu (u64 hu)) vn_repr boot_repr T.n_repr (acons (glst (acons (gv 0) anil)) anil)) (gcb (call_repr hgu (u64 hu)) vn_repr boot_repr T.n_repr (acons (glst (acons (gv 1) anil)) anil))))
  ssnil)
/-! _law_error -/
abbrev s_L_error : Stmt := topS 28
abbrev N_L_error : List Str := ["e", "kinds", "names", "k"]
theorem sc_L_error : FnScope N_L_error ["e"] (defScope s_L_error) := ⟨rfl, rfl, rfl, by decide +kernel, rfl, by decide +kernel, by decide +kernel⟩
theorem fnE_L (T : Txt K mg) {f : Addr} {fd : FuncData} {cl c1 c2 c3 c4 c5 : Addr} {z : Str} {b1 b2 b3 b4 b5 : Bool} (F : Fun K "_law_error" "_law_error" s_L_error f fd) (ht : ∀ a ct, tells (errM a b1 b2 b3 b4 b5 ⟨[.raw (.ref a), .no, .no, .no], ct⟩) z) (EC : ExcC K cl)
    (k1 : PySem.W.kitOne K (.ref cl) (.ref c1) = some b1) (k2 : PySem.W.kitOne K (.ref cl) (.ref c2) = some b2) (k3 : PySem.W.kitOne K (.ref cl) (.ref c3) = some b3) (k4 : PySem.W.kitOne K (.ref cl) (.ref c4) = some b4) (k5 : PySem.W.kitOne K (.ref cl) (.ref c5) = some b5)
    (g1 : mg "NotAllowed" = some (.ref c1)) (g2 : mg "TooLarge" = some (.ref c2)) (g3 : mg "Missing" = some (.ref c3)) (g4 : mg "BadPaper" = some (.ref c4)) (g5 : mg "BadForm" = some (.ref c5)) : FnE P w K mg base 2 f fd cl z := by
  have nd := sc_L_error.nd
  refine fnE_err (k := 1) F sc_L_error rfl ht fun cdv A outer s H a oe hot hu hz hf => ?_
  exact (sscons (sset 1 nd (gF (flst (acons (gisE (List.mem_singleton.mpr rfl) EC hz hf k1 T.n_isinstance g1) (acons (gisE (List.mem_singleton.mpr rfl) EC hz hf k2 T.n_isinstance g2) (acons (gisE (List.mem_singleton.mpr rfl) EC hz hf k3 T.n_isinstance g3) (acons (gisE (List.mem_singleton.mpr rfl) EC hz hf k4 T.n_isinstance g4) (acons (gisE (List.mem_singleton.mpr rfl) EC hz hf k5 T.n_isinstance g5) anil))))))))
  (sscons (slcH 2 [("k", 3)] .dat hot nd (blkOk_by (N := N_L_error) (sc := defScope s_L_error) (by decide +kernel)) (sw_true rfl rfl rfl (by decide +kernel)) T.n_range (acons gint anil) (fun _ _ _ _ _ => (hname 3 nd)) (fun _ _ _ _ _ => (tsone (tval (gix (gv 1) (gv 3))))) (fun _ _ _ _ _ => (gix (glst (acons gstr (acons gstr (acons gstr (acons gstr (acons gstr anil)))))) (gv 3))))
  (sscons (sret (gix (glst (acons gstr (acons (gix (gadd (gv 2) (glst (acons gstr anil))) gint) anil))) (gct call_int1 vn_int PyProof.Rows.boot_int T.n_int (acons (gcmp (op_eqD (u64 hu)) v2_eq (gcb call_len vn_len PySem.boot_len T.n_len (acons (gv 2) anil)) gint) anil))))
  ssnil)))
/-- the classes of the errors -/
structure ErrF (K : PySem.W.Frag) (mg : Str → Option Value) : Prop where
  ex : ∃ (f : Addr) (fd : FuncData) (eN c1 c2 c3 c4 c5 : Addr), Fun K "_law_error" "_law_error" s_L_error f fd ∧ mg "_law_error" = some (.ref f) ∧ PySem.W.keepIn K (.ref f) = true ∧ Binds K fd ["e"] [] ∧ mg "NetError" = some (.ref eN) ∧
    (mg "NotAllowed" = some (.ref c1) ∧ mg "TooLarge" = some (.ref c2) ∧ mg "Missing" = some (.ref c3) ∧ mg "BadPaper" = some (.ref c4) ∧ mg "BadForm" = some (.ref c5)) ∧
    (ExcC K c1 ∧ PySem.W.exmOne K (.ref c1) (.ref eN) = some true ∧ PySem.W.kitOne K (.ref c1) (.ref c1) = some true ∧ PySem.W.kitOne K (.ref c1) (.ref c2) = some false ∧ PySem.W.kitOne K (.ref c1) (.ref c3) = some false ∧ PySem.W.kitOne K (.ref c1) (.ref c4) = some false ∧ PySem.W.kitOne K (.ref c1) (.ref c5) = some false) ∧
    (ExcC K c2 ∧ PySem.W.exmOne K (.ref c2) (.ref eN) = some true ∧ PySem.W.kitOne K (.ref c2) (.ref c1) = some false ∧ PySem.W.kitOne K (.ref c2) (.ref c2) = some true ∧ PySem.W.kitOne K (.ref c2) (.ref c3) = some false ∧ PySem.W.kitOne K (.ref c2) (.ref c4) = some false ∧ PySem.W.kitOne K (.ref c2) (.ref c5) = some false) ∧
    (ExcC K c3 ∧ PySem.W.exmOne K (.ref c3) (.ref eN) = some true ∧ PySem.W.kitOne K (.ref c3) (.ref c1) = some false ∧ PySem.W.kitOne K (.ref c3) (.ref c2) = some false ∧ PySem.W.kitOne K (.ref c3) (.ref c3) = some true ∧ PySem.W.kitOne K (.ref c3) (.ref c4) = some false ∧ PySem.W.kitOne K (.ref c3) (.ref c5) = some false) ∧
    (ExcC K c4 ∧ PySem.W.exmOne K (.ref c4) (.ref eN) = some true ∧ PySem.W.kitOne K (.ref c4) (.ref c1) = some false ∧ PySem.W.kitOne K (.ref c4) (.ref c2) = some false ∧ PySem.W.kitOne K (.ref c4) (.ref c3) = some false ∧ PySem.W.kitOne K (.ref c4) (.ref c4) = some true ∧ PySem.W.kitOne K (.ref c4) (.ref c5) = some false)
theorem c_err_ok (T : Txt K mg) (EF : ErrF K mg) : ErrD P w K mg base 2 nmE := by
  obtain ⟨f, fd, eN, c1, c2, c3, c4, c5, F, gf, kf, bf, gN, ⟨g1, g2, g3, g4, g5⟩, ⟨E1, x1, k11, k12, k13, k14, k15⟩, ⟨E2, x2, k21, k22, k23, k24, k25⟩, ⟨E3, x3, k31, k32, k33, k34, k35⟩, ⟨E4, x4, k41, k42, k43, k44, k45⟩⟩ := EF.ex
  refine ⟨f, fd, eN, gN, gf, kf, bf, fun n z cl hz hc => ?_⟩
  unfold nmE at hz
  split at hz
  · rename_i e; subst e; cases hz
    rw [g1] at hc; cases hc
    exact ⟨x1, fnE_L T F (errM_1) E1 k11 k12 k13 k14 k15 g1 g2 g3 g4 g5⟩
  split at hz
  · rename_i e; subst e; cases hz
    rw [g2] at hc; cases hc
    exact ⟨x2, fnE_L T F (errM_2) E2 k21 k22 k23 k24 k25 g1 g2 g3 g4 g5⟩
  split at hz
  · rename_i e; subst e; cases hz
    rw [g3] at hc; cases hc
    exact ⟨x3, fnE_L T F (errM_3) E3 k31 k32 k33 k34 k35 g1 g2 g3 g4 g5⟩
  split at hz
  · rename_i e; subst e; cases hz
    rw [g4] at hc; cases hc
    exact ⟨x4, fnE_L T F (errM_4) E4 k41 k42 k43 k44 k45 g1 g2 g3 g4 g5⟩
  cases hz
/-! _law_stream -/
abbrev s_L_stream : Stmt := topS 29
abbrev N_L_stream : List Str := ["script", "numbers", "cell", "rest", "k", "stirred"]
theorem sc_L_stream : FnScope N_L_stream ["script"] (defScope s_L_stream) := ⟨rfl, rfl, rfl, by decide +kernel, rfl, by decide +kernel, by decide +kernel⟩
def m_cell : M Fl :=
  (seqM (asgM (opN absD (consM (opN intD (consM (getM 2) (pureM []))) (pureM []))) (putM 3))
  (seqM (ifM (asB (op2 geD (getM 3) (op2 powD (pureM (.int 10)) (pureM (.int 18)))))
  (seqM (forS (srcA rng1 (consM (pureM (.int 60)) (pureM []))) (putM 4)
  (seqM (appM 1 (op2 modD (opN intD (consM (getM 3) (pureM []))) (pureM (.int 1009))))
  (seqM (asgM (op2 fdivD (getM 3) (pureM (.int 1009))) (putM 3))
  (seqM (ifM (asB (op2 eqD (getM 3) (pureM (.int 0))))
  (seqM (pureM .brk)
  nextM)
  nextM)
  nextM))))
  nextM)
  (seqM (asgM (op2 modD (opN intD (consM (getM 3) (pureM []))) (pureM (.int 2147483647))) (putM 5))
  (seqM (forS (srcA rng1 (consM (pureM (.int 10)) (pureM []))) (putM 4)
  (seqM (asgM (op2 modD (opN intD (consM (op2 addD (op2 addD (op2 mulXD (getM 5) (pureM (.int 48271))) (op2 mulXD (pureM (.int 7)) (getM 4))) (pureM (.int 11))) (pureM []))) (pureM (.int 2147483647))) (putM 5))
  (seqM (appM 1 (op2 modD (op2 modD (opN intD (consM (op2 addD (op2 mulXD (getM 5) (pureM (.int 69621))) (getM 4)) (pureM []))) (pureM (.int 2147483629))) (pureM (.int 1009))))
  nextM)))
  nextM)))
  nextM))
def m_srest : M Fl :=
  (seqM (ifM (asB (op2 eqD (lenV 1) (pureM (.int 0))))
  (seqM (appM 1 (pureM (.int 0)))
  nextM)
  nextM)
  (seqM (retM (getM 1))
  nextM))
theorem cal_L_stream (T : Txt K mg) (D : DefD K mg "_law_stream" s_L_stream ["script"]) (ok : StreamOk m_cell m_srest) : StrD P w K mg base 1 := by
  have nd := sc_L_stream.nd
  refine stream_ok (k := 0) D sc_L_stream rfl ok fun f cdv A outer s H E hr hgu hu C hC => ?_
  have pc : DSs (cx (cxOf (L2N.CX P w) P w K mg base N_L_stream "_law_stream" (defScope s_L_stream) f cdv A outer s H E) none fun _ => E) (cxOf (L2N.CX P w) P w K mg base N_L_stream "_law_stream" (defScope s_L_stream) f cdv A outer s H E) (forBody ((defBody s_L_stream).getD 1 (.Pass ⟨0, 0, 0, 0⟩))) m_cell :=
    (sscons (sset 3 nd (gcb call_abs vn_abs boot_abs T.n_abs (acons (gct call_int1 vn_int PyProof.Rows.boot_int T.n_int (acons (gv 2) anil)) anil)))
  (sscons (sif (tcmp op_ge v2_ge (gv 3) (gpow gint gint))
  (sscons (sfor (L2.passes_of rfl) rfl (irng1 T.n_range (acons gint anil)) (hname 4 nd)
  (sscons (sapp 1 (gmod (gct call_int1 vn_int PyProof.Rows.boot_int T.n_int (acons (gv 3) anil)) gint))
  (sscons (sset 3 nd (gfdiv (gv 3) gint))
  (sscons (sif (tcmp (op_eqD (u64 hu)) v2_eq (gv 3) gint)
  (sscons sbrk
  ssnil)
  ssnil)
  ssnil))))
  ssnil)
  (sscons (sset 5 nd (gmod (gct call_int1 vn_int PyProof.Rows.boot_int T.n_int (acons (gv 3) anil)) gint))
  (sscons (sfor (L2.passes_of rfl) rfl (irng1 T.n_range (acons gint anil)) (hname 4 nd)
  (sscons (sset 5 nd (gmod (gct call_int1 vn_int PyProof.Rows.boot_int T.n_int (acons (gadd (gadd (gmul (gv 5) gint) (gmul gint (gv 4))) gint) anil)) gint))
  (sscons (sapp 1 (gmod (gmod (gct call_int1 vn_int PyProof.Rows.boot_int T.n_int (acons (gadd (gmul (gv 5) gint) (gv 4)) anil)) gint) gint))
  ssnil)))
  ssnil)))
  ssnil))
  have pr : DSs (cx (cxOf (L2N.CX P w) P w K mg base N_L_stream "_law_stream" (defScope s_L_stream) f cdv A outer s H E) none fun _ => E) (cxOf (L2N.CX P w) P w K mg base N_L_stream "_law_stream" (defScope s_L_stream) f cdv A outer s H E) ((defBody s_L_stream).drop 2) m_srest :=
    (sscons (sif (tcmp (op_eqD (u64 hu)) v2_eq (glenV 1 T.n_len) gint)
  (sscons (sapp 1 gint)
  ssnil)
  ssnil)
  (sscons (sret (gv 1))
  ssnil))
  subst hC
  exact pss_cons (ps_set (i := 1) nd rfl (Or.inl rfl) (pe_lst pa_nil)) (pss_cons (ps_for (L2.passes_of rfl) rfl (pi_any (pe_slice sl_list (pv 0) po_none (po_some pe_int))) (pg_name (i := 2) nd rfl (Or.inl rfl)) pc) pr)
/-! _law_next -/
abbrev s_L_next : Stmt := topS 30
abbrev N_L_next : List Str := ["state", "many", "turn"]
theorem sc_L_next : FnScope N_L_next ["state", "many"] (defScope s_L_next) := ⟨rfl, rfl, rfl, by decide +kernel, rfl, by decide +kernel, by decide +kernel⟩
def m_L_next (ns : List Int) : M Fl :=
  (seqM (stSet 0 (op2 addD (st1M 0) (pureM (.int 1))))
  (seqM (asgM (op2 fdivD (st1M 0) (opN lenD (consM (st0M 0 ns) (pureM [])))) (putM 2))
  (seqM (retM (op2 modD (opN intD (consM (op2 addD (op2 addD (op2 ixD (st0M 0 ns) (op2 modD (st1M 0) (opN lenD (consM (st0M 0 ns) (pureM []))))) (op2 mulXD (getM 2) (pureM (.int 389)))) (op2 mulXD (op2 mulXD (st1M 0) (getM 2)) (pureM (.int 17)))) (pureM []))) (getM 1)))
  nextM)))
def h_L_next : FnM := fn 2 3 m_L_next
theorem cal_L_next (T : Txt K mg) (D : DefD K mg "_law_next" s_L_next ["state", "many"])  : CalD P w K mg base "_law_next" 1 h_L_next := by
  have nd := sc_L_next.nd
  refine D.cal (k := 0) sc_L_next rfl fun f stc cdv A outer s H E hr hgu hu => ?_
  exact (sscons (sst 0 (gadd (gst1 0) gint))
  (sscons (sset 2 nd (gfdiv (gst1 0) (gcb call_len vn_len PySem.boot_len T.n_len (acons (gst0 0) anil))))
  (sscons (sret (gmod (gct call_int1 vn_int PyProof.Rows.boot_int T.n_int (acons (gadd (gadd (gix (gst0 0) (gmod (gst1 0) (gcb call_len vn_len PySem.boot_len T.n_len (acons (gst0 0) anil)))) (gmul (gv 2) gint)) (gmul (gmul (gst1 0) (gv 2)) gint)) anil)) (gv 1)))
  ssnil)))
/-! _law_told -/
abbrev s_L_told : Stmt := topS 31
abbrev N_L_told : List Str := ["kind", "many", "depth", "one", "e"]
theorem sc_L_told : FnScope N_L_told ["kind", "many", "depth", "one"] (defScope s_L_told) := ⟨rfl, rfl, rfl, by decide +kernel, rfl, by decide +kernel, by decide +kernel⟩
def m_L_told (ns : List Int) : M Fl :=
  (seqM (tryM nmE
  (seqM (ifM (asB (op2 eqD (getM 0) (pureM (.int 0))))
  (seqM (retM (tupM (consM (pureM (.str "told")) (consM (callM h_bears ns (datsM (consM (getM 1) (consM (getM 2) (pureM []))))) (pureM [])))))
  nextM)
  nextM)
  (seqM (retM (tupM (consM (pureM (.str "told")) (consM (pickM [h_is_safe, h_first_lies, h_unsafe_sets] ns (op2 subD (getM 0) (pureM (.int 1))) (datsM (consM (getM 1) (consM (getM 2) (consM (getM 3) (pureM [])))))) (pureM [])))))
  nextM)))
  nextM)
def h_L_told : FnM := fn 4 5 m_L_told
theorem cal_L_told (T : Txt K mg) (D : DefD K mg "_law_told" s_L_told ["kind", "many", "depth", "one"]) (c_is_safe : CalD P w K mg base "is_safe" 8 h_is_safe) (c_first_lies : CalD P w K mg base "first_lies" 8 h_first_lies) (c_unsafe_sets : CalD P w K mg base "unsafe_sets" 8 h_unsafe_sets) (c_bears : CalD P w K mg base "bears" 9 h_bears) (c_err : ErrD P w K mg base 2 nmE) : CalD P w K mg base "_law_told" 10 h_L_told := by
  have nd := sc_L_told.nd
  refine D.cal (k := 9) sc_L_told rfl fun f stc cdv A outer s H E hr hgu hu => ?_
  exact (sscons (stry 4 c_err (hr.mono (by decide)) rfl rfl nd fun W pn xe tk po =>
  (sscons (sif (tcmp (op_eqD (u64 hu)) v2_eq (gv 0) gint)
  (sscons (sret (gtup (acons gstr (acons (gcall c_bears (hr.mono (by decide)) hgu (exT tk) (xdat (acons (gv 1) (acons (gv 2) anil)))) anil))))
  ssnil)
  ssnil)
  (sscons (sret (gtup (acons gstr (acons (gpick (pkcons (c_is_safe.mono (k := 8) (by decide)) (pkcons (c_first_lies.mono (k := 8) (by decide)) (pkcons (c_unsafe_sets.mono (k := 8) (by decide)) pknil))) (hr.mono (by decide)) hgu (exT tk) (gsub (gv 0) gint) (xdat (acons (gv 1) (acons (gv 2) (acons (gv 3) anil))))) anil))))
  ssnil)))
  ssnil)
/-! _law_words -/
abbrev s_L_words : Stmt := topS 32
abbrev N_L_words : List Str := ["many", "depth", "found", "size", "rows", "k", "longer", "row", "one"]
theorem sc_L_words : FnScope N_L_words ["many", "depth"] (defScope s_L_words) := ⟨rfl, rfl, rfl, by decide +kernel, rfl, by decide +kernel, by decide +kernel⟩
def m_L_words (ns : List Int) : M Fl :=
  (seqM (asgM (lstM (guardL (pureM []))) (putM 2))
  (seqM (forS (srcA rng2 (consM (pureM (.int 2)) (consM (op2 addD (getM 1) (pureM (.int 3))) (pureM [])))) (putM 3)
  (seqM (asgM (lstM (guardL (consM (tupM (consM (pureM (.int 0)) (pureM []))) (pureM [])))) (putM 4))
  (seqM (forS (srcA rng1 (consM (op2 subD (getM 3) (pureM (.int 1))) (pureM []))) (putM 5)
  (seqM (asgM (lstM (guardL (pureM []))) (putM 6))
  (seqM (forS (srcM (getM 4)) (putM 7)
  (seqM (asgM (op2 addD (getM 6) (lstM (lcM (srcA rng1 (consM (getM 0) (pureM []))) (putM 8) (asB (op2 (inD true) (getM 8) (getM 7))) (op2 addD (getM 7) (tupM (consM (getM 8) (pureM [])))) [8]))) (putM 6))
  nextM))
  (seqM (asgM (getM 6) (putM 4))
  nextM))))
  (seqM (asgM (op2 addD (getM 2) (getM 4)) (putM 2))
  nextM))))
  (seqM (retM (getM 2))
  nextM)))
def h_L_words : FnM := fn 2 9 m_L_words
theorem cal_L_words (T : Txt K mg) (D : DefD K mg "_law_words" s_L_words ["many", "depth"])  : CalD P w K mg base "_law_words" 1 h_L_words := by
  have nd := sc_L_words.nd
  refine D.cal (k := 0) sc_L_words rfl fun f stc cdv A outer s H E hr hgu hu => ?_
  exact (sscons (sset 2 nd (glst anil))
  (sscons (sfor (L2.passes_of rfl) rfl (irng2 T.n_range (acons gint (acons (gadd (gv 1) gint) anil))) (hname 3 nd)
  (sscons (sset 4 nd (glst (acons (gtup (acons gint anil)) anil)))
  (sscons (sfor (L2.passes_of rfl) rfl (irng1 T.n_range (acons (gsub (gv 3) gint) anil)) (hname 5 nd)
  (sscons (sset 6 nd (glst anil))
  (sscons (sfor (L2.passes_of rfl) rfl (ilist (gv 4)) (hname 7 nd)
  (sscons (sset 6 nd (gadd (gv 6) (gF (flc [("one", 8)] rfl nd (blkOk_by (N := N_L_words) (sc := defScope s_L_words) (by decide +kernel)) (irng1 T.n_range (acons (gv 0) anil)) (fun _ _ _ _ _ => (hname 8 nd)) (fun _ _ _ _ _ => (tsone (tcmp (op_notInX hu) v2_in (gv 8) (gv 7)))) (fun _ _ _ _ _ => (gadd (gv 7) (gtup (acons (gv 8) anil))))))))
  ssnil))
  (sscons (sset 4 nd (gv 6))
  ssnil))))
  (sscons (sset 2 nd (gadd (gv 2) (gv 4)))
  ssnil))))
  (sscons (sret (gv 2))
  ssnil)))
/-! _law_agreed -/
abbrev s_L_agreed : Stmt := topS 33
abbrev N_L_agreed : List Str := ["rows", "many", "depth", "liars", "order", "lies", "left", "told", "row", "known", "values", "good", "one", "node"]
theorem sc_L_agreed : FnScope N_L_agreed ["rows", "many", "depth", "liars", "order", "lies"] (defScope s_L_agreed) := ⟨rfl, rfl, rfl, by decide +kernel, rfl, by decide +kernel, by decide +kernel⟩
def m_L_agreed (ns : List Int) : M Fl :=
  (seqM (asgF (listOfM (consM (getM 5) (pureM []))) 6)
  (seqM (asgD (disp1M (tupM (consM (pureM (.int 0)) (pureM []))) (getM 4)) 7)
  (seqM (forS (srcM (getM 0)) (putM 8)
  (seqM (ifM (asB (op2 (inD false) (op2 ixD (getM 8) (op1 negD (pureM (.int 2)))) (getM 3)))
  (seqM (dputM 7 (getM 8) (popM 6 (pureM (.int 0))))
  nextM)
  (seqM (dputM 7 (getM 8) (dgetV 7 (sliceM (getM 8) (pureM none) (partM (op1 negD (pureM (.int 1)))))))
  nextM))
  nextM))
  (seqM (asgD (pureM []) 9)
  (seqM (forS (srcM (op1 revD (getM 0))) (putM 8)
  (seqM (asgM (op2 addD (lstM (guardL (consM (dgetV 7 (getM 8)) (pureM [])))) (lstM (lcM (srcA rng1 (consM (getM 1) (pureM []))) (putM 12) (andM (asB (op2 (inD true) (getM 12) (getM 8))) (asB (op2 ltD (opN lenD (consM (getM 8) (pureM []))) (op2 addD (getM 2) (pureM (.int 2)))))) (dgetV 9 (op2 addD (sliceM (getM 8) (pureM none) (partM (op1 negD (pureM (.int 1))))) (tupM (consM (getM 12) (consM (op2 ixD (getM 8) (op1 negD (pureM (.int 1)))) (pureM [])))))) [12]))) (putM 10))
  (seqM (dputM 9 (getM 8) (opN intD (consM (op2 gtD (op2 mulXD (pureM (.int 2)) (cntM (getM 10) (pureM (.int 1)))) (opN lenD (consM (getM 10) (pureM [])))) (pureM []))))
  nextM)))
  (seqM (asgM (lstM (lcM (srcA rng2 (consM (pureM (.int 1)) (consM (getM 1) (pureM [])))) (putM 13) (asB (op2 (inD true) (getM 13) (getM 3))) (dgetV 9 (tupM (consM (pureM (.int 0)) (consM (getM 13) (pureM []))))) [13])) (putM 11))
  (seqM (retM (op2 ltD (op1 lenSetD (op2 addD (getM 11) (op2 mulXD (lstM (guardL (consM (getM 4) (pureM [])))) (opN intD (consM (op2 (inD true) (pureM (.int 0)) (getM 3)) (pureM [])))))) (pureM (.int 2))))
  nextM)))))))
def h_L_agreed : FnM := fn 6 14 m_L_agreed
theorem cal_L_agreed (T : Txt K mg) (D : DefD K mg "_law_agreed" s_L_agreed ["rows", "many", "depth", "liars", "order", "lies"])  : CalD P w K mg base "_law_agreed" 1 h_L_agreed := by
  have nd := sc_L_agreed.nd
  refine D.cal (k := 0) sc_L_agreed rfl fun f stc cdv A outer s H E hr hgu hu => ?_
  exact (sscons (ssetF 6 nd (flistOf T.n_list (acons (gv 5) anil)))
  (sscons (ssetD 7 nd (ddisp1 hu (gtup (acons gint anil)) (gv 4)))
  (sscons (sfor (L2.passes_of rfl) rfl (ilist (gv 0)) (hname 8 nd)
  (sscons (sif (tcmp (op_inX hu) v2_in (gix (gv 8) (gneg gint)) (gv 3))
  (sscons (sdput hu 7 (gv 8) (gpop 6 gint))
  ssnil)
  (sscons (sdput hu 7 (gv 8) (gdgetV hu 7 (gslice (gv 8) ono (osome (gneg gint)))))
  ssnil))
  ssnil))
  (sscons (ssetD 9 nd ddnew)
  (sscons (sfor (L2.passes_of rfl) rfl (ilist (grev (gv 0))) (hname 8 nd)
  (sscons (sset 10 nd (gadd (glst (acons (gdgetV hu 7 (gv 8)) anil)) (gF (flc [("one", 12)] rfl nd (blkOk_by (N := N_L_agreed) (sc := defScope s_L_agreed) (by decide +kernel)) (irng1 T.n_range (acons (gv 1) anil)) (fun _ _ _ _ _ => (hname 12 nd)) (fun _ _ _ _ _ => (tsone (tw (wand (tcmp (op_notInX hu) v2_in (gv 12) (gv 8)) (wand1 (tcmp op_lt v2_lt (gcb call_len vn_len PySem.boot_len T.n_len (acons (gv 8) anil)) (gadd (gv 2) gint))))))) (fun _ _ _ _ _ => (gdgetV hu 9 (gadd (gslice (gv 8) ono (osome (gneg gint))) (gtup (acons (gv 12) (acons (gix (gv 8) (gneg gint)) anil))))))))))
  (sscons (sdput hu 9 (gv 8) (gct call_int1 vn_int PyProof.Rows.boot_int T.n_int (acons (gcmp op_gt v2_gt (gmul gint (gcnt (gv 10) gint)) (gcb call_len vn_len PySem.boot_len T.n_len (acons (gv 10) anil))) anil)))
  ssnil)))
  (sscons (slc 11 [("node", 13)] .dat rfl nd (blkOk_by (N := N_L_agreed) (sc := defScope s_L_agreed) (by decide +kernel)) (sw_true rfl rfl rfl (by decide +kernel)) (irng2 T.n_range (acons gint (acons (gv 1) anil))) (fun _ _ _ _ _ => (hname 13 nd)) (fun _ _ _ _ _ => (tsone (tcmp (op_notInX hu) v2_in (gv 13) (gv 3)))) (fun _ _ _ _ _ => (gdgetV hu 9 (gtup (acons gint (acons (gv 13) anil))))))
  (sscons (sret (gcmp op_lt v2_lt (glenSet rfl T.n_len T.n_set (gadd (gv 11) (gmul (glst (acons (gv 4) anil)) (gct call_int1 vn_int PyProof.Rows.boot_int T.n_int (acons (gcmp (op_notInX hu) v2_in gint (gv 3)) anil))))) gint))
  ssnil)))))))
/-! _law_first -/
abbrev s_L_first : Stmt := topS 34
abbrev N_L_first : List Str := ["many", "depth", "liars", "rows", "size", "order", "mask", "lies", "row", "k"]
theorem sc_L_first : FnScope N_L_first ["many", "depth", "liars"] (defScope s_L_first) := ⟨rfl, rfl, rfl, by decide +kernel, rfl, by decide +kernel, by decide +kernel⟩
def m_L_first (ns : List Int) : M Fl :=
  (seqM (asgM (callM h_L_words ns (datsM (consM (getM 0) (consM (getM 1) (pureM []))))) (putM 3))
  (seqM (asgM (opN lenD (consM (lstM (lcM (srcM (getM 3)) (putM 8) (asB (op2 (inD false) (op2 ixD (getM 8) (op1 negD (pureM (.int 2)))) (getM 2))) (getM 8) [8])) (pureM []))) (putM 4))
  (seqM (ifM (asB (op2 gtD (getM 4) (pureM (.int 10))))
  (seqM (retM (pureM (.str "large")))
  nextM)
  nextM)
  (seqM (forS (srcM (lstM (guardL (consM (pureM (.int 0)) (consM (pureM (.int 1)) (pureM [])))))) (putM 5)
  (seqM (forS (srcA rng1 (consM (op2 shlD (pureM (.int 1)) (getM 4)) (pureM []))) (putM 6)
  (seqM (asgM (opN tupleOfD (consM (lstM (lcM (srcA rng1 (consM (getM 4) (pureM []))) (putM 9) yesM (op2 bandD (op2 shrD (getM 6) (op2 subD (op2 subD (getM 4) (pureM (.int 1))) (getM 9))) (pureM (.int 1))) [9])) (pureM []))) (putM 7))
  (seqM (ifM (notM (asB (callM h_L_agreed ns (datsM (consM (getM 3) (consM (getM 0) (consM (getM 1) (consM (getM 2) (consM (getM 5) (consM (getM 7) (pureM [])))))))))))
  (seqM (retM (tupM (consM (getM 5) (consM (getM 7) (pureM [])))))
  nextM)
  nextM)
  nextM)))
  nextM))
  (seqM (retM (pureM .none))
  nextM)))))
def h_L_first : FnM := fn 3 10 m_L_first
theorem cal_L_first (T : Txt K mg) (D : DefD K mg "_law_first" s_L_first ["many", "depth", "liars"]) (c_L_agreed : CalD P w K mg base "_law_agreed" 1 h_L_agreed) (c_L_words : CalD P w K mg base "_law_words" 1 h_L_words) : CalD P w K mg base "_law_first" 2 h_L_first := by
  have nd := sc_L_first.nd
  refine D.cal (k := 1) sc_L_first rfl fun f stc cdv A outer s H E hr hgu hu => ?_
  exact (sscons (sset 3 nd (gcall c_L_words (hr.mono (by decide)) hgu (exB (L2N.takes_of rfl rfl rfl rfl)) (xdat (acons (gv 0) (acons (gv 1) anil)))))
  (sscons (sset 4 nd (gcb call_len vn_len PySem.boot_len T.n_len (acons (gF (flc [("row", 8)] rfl nd (blkOk_by (N := N_L_first) (sc := defScope s_L_first) (by decide +kernel)) (ilist (gv 3)) (fun _ _ _ _ _ => (hname 8 nd)) (fun _ _ _ _ _ => (tsone (tcmp (op_inX hu) v2_in (gix (gv 8) (gneg gint)) (gv 2)))) (fun _ _ _ _ _ => (gv 8)))) anil)))
  (sscons (sif (tcmp op_gt v2_gt (gv 4) gint)
  (sscons (sret gstr)
  ssnil)
  ssnil)
  (sscons (sfor (L2.passes_of rfl) rfl (ilist (glst (acons gint (acons gint anil)))) (hname 5 nd)
  (sscons (sfor (L2.passes_of rfl) rfl (irng1 T.n_range (acons (gshl gint (gv 4)) anil)) (hname 6 nd)
  (sscons (sset 7 nd (gct call_tuple_of vn_tupleOf PyProof.Rows.boot_tuple T.n_tuple (acons (gF (flc [("k", 9)] rfl nd (blkOk_by (N := N_L_first) (sc := defScope s_L_first) (by decide +kernel)) (irng1 T.n_range (acons (gv 4) anil)) (fun _ _ _ _ _ => (hname 9 nd)) (fun _ _ _ _ _ => tsnil) (fun _ _ _ _ _ => (gband (gshr (gv 6) (gsub (gsub (gv 4) gint) (gv 9))) gint)))) anil)))
  (sscons (sif (tnot (tval (gcall c_L_agreed (hr.mono (by decide)) hgu (exB (L2N.takes_of rfl rfl rfl rfl)) (xdat (acons (gv 3) (acons (gv 0) (acons (gv 1) (acons (gv 2) (acons (gv 5) (acons (gv 7) anil))))))))))
  (sscons (sret (gtup (acons (gv 5) (acons (gv 7) anil))))
  ssnil)
  ssnil)
  ssnil)))
  ssnil))
  (sscons (sret gnon)
  ssnil)))))
/-! _law_sets -/
abbrev s_L_sets : Stmt := topS 35
abbrev N_L_sets : List Str := ["many", "few", "rows", "k", "longer", "row", "one"]
theorem sc_L_sets : FnScope N_L_sets ["many", "few"] (defScope s_L_sets) := ⟨rfl, rfl, rfl, by decide +kernel, rfl, by decide +kernel, by decide +kernel⟩
def m_L_sets (ns : List Int) : M Fl :=
  (seqM (asgM (lstM (guardL (consM (tupM (pureM [])) (pureM [])))) (putM 2))
  (seqM (forS (srcA rng1 (consM (getM 1) (pureM []))) (putM 3)
  (seqM (asgM (lstM (guardL (pureM []))) (putM 4))
  (seqM (forS (srcM (getM 2)) (putM 5)
  (seqM (asgM (op2 addD (getM 4) (lstM (lcM (srcA rng2 (consM (op2 addD (op2 ixD (op2 addD (lstM (guardL (consM (op1 negD (pureM (.int 1))) (pureM [])))) (lstM (listOfM (consM (getM 5) (pureM []))))) (op1 negD (pureM (.int 1)))) (pureM (.int 1))) (consM (getM 0) (pureM [])))) (putM 6) yesM (op2 addD (getM 5) (tupM (consM (getM 6) (pureM [])))) [6]))) (putM 4))
  nextM))
  (seqM (asgM (getM 4) (putM 2))
  nextM))))
  (seqM (retM (getM 2))
  nextM)))
def h_L_sets : FnM := fn 2 7 m_L_sets
theorem cal_L_sets (T : Txt K mg) (D : DefD K mg "_law_sets" s_L_sets ["many", "few"])  : CalD P w K mg base "_law_sets" 1 h_L_sets := by
  have nd := sc_L_sets.nd
  refine D.cal (k := 0) sc_L_sets rfl fun f stc cdv A outer s H E hr hgu hu => ?_
  exact (sscons (sset 2 nd (glst (acons (gtup anil) anil)))
  (sscons (sfor (L2.passes_of rfl) rfl (irng1 T.n_range (acons (gv 1) anil)) (hname 3 nd)
  (sscons (sset 4 nd (glst anil))
  (sscons (sfor (L2.passes_of rfl) rfl (ilist (gv 2)) (hname 5 nd)
  (sscons (sset 4 nd (gadd (gv 4) (gF (flc [("one", 6)] rfl nd (blkOk_by (N := N_L_sets) (sc := defScope s_L_sets) (by decide +kernel)) (irng2 T.n_range (acons (gadd (gix (gadd (glst (acons (gneg gint) anil)) (gF (flistOf T.n_list (acons (gv 5) anil)))) (gneg gint)) gint) (acons (gv 0) anil))) (fun _ _ _ _ _ => (hname 6 nd)) (fun _ _ _ _ _ => tsnil) (fun _ _ _ _ _ => (gadd (gv 5) (gtup (acons (gv 6) anil))))))))
  ssnil))
  (sscons (sset 2 nd (gv 4))
  ssnil))))
  (sscons (sret (gv 2))
  ssnil)))
/-! law -/
abbrev s_law : Stmt := topS 36
abbrev N_law : List Str := ["script", "state", "turn", "many", "depth", "liars", "found", "due", "firsts", "stop", "few", "rows", "unsafe", "told", "borne", "answer", "bad", "large", "three", "node", "k", "some", "one"]
theorem sc_law : FnScope N_law ["script"] (defScope s_law) := ⟨rfl, rfl, rfl, by decide +kernel, rfl, by decide +kernel, by decide +kernel⟩
def m_law (ns : List Int) : M Fl :=
  (seqM (forS (srcA rng1 (consM (pureM (.int 2)) (pureM []))) (putM 2)
  (seqM (asgM (op2 addD (pureM (.int 1)) (callM h_L_next ns (staM 1 (consM (pureM (.int 5)) (pureM []))))) (putM 3))
  (seqM (asgM (callM h_L_next ns (staM 1 (consM (op2 ixD (lstM (guardL (consM (pureM (.int 3)) (consM (pureM (.int 3)) (consM (pureM (.int 3)) (consM (pureM (.int 3)) (consM (pureM (.int 2)) (pureM [])))))))) (op2 subD (getM 3) (pureM (.int 1)))) (pureM [])))) (putM 4))
  (seqM (asgM (opN tupleOfD (consM (lstM (lcM (srcA rng1 (consM (getM 3) (pureM []))) (putM 19) (asB (op2 eqD (callM h_L_next ns (staM 1 (consM (pureM (.int 3)) (pureM [])))) (pureM (.int 0)))) (getM 19) [19])) (pureM []))) (putM 5))
  (seqM (asgM (callM h_L_first ns (datsM (consM (getM 3) (consM (getM 4) (consM (getM 5) (pureM [])))))) (putM 6))
  (seqM (asgM (lstM (guardL (consM (pureM (.str "large")) (consM (pureM (.str "large")) (pureM []))))) (putM 7))
  (seqM (ifM (asB (op2 neD (getM 6) (pureM (.str "large"))))
  (seqM (asgM (lstM (guardL (consM (tupM (consM (pureM (.str "told")) (consM (op2 (isND false) (getM 6) (pureM .none)) (pureM [])))) (consM (op2 ixD (lstM (guardL (consM (pureM (.str "missing")) (consM (tupM (consM (pureM (.str "told")) (consM (getM 6) (pureM [])))) (pureM []))))) (opN intD (consM (op2 (isND true) (getM 6) (pureM .none)) (pureM [])))) (pureM []))))) (putM 7))
  nextM)
  nextM)
  (seqM (ifM (orM (notM (asB (callM h_L_same ns (datsM (consM (lstM (lcM (srcM (lstM (guardL (consM (pureM (.int 1)) (consM (pureM (.int 2)) (pureM [])))))) (putM 20) yesM (callM h_L_told ns (datsM (consM (getM 20) (consM (getM 3) (consM (getM 4) (consM (getM 5) (pureM []))))))) [20])) (consM (getM 7) (pureM []))))))) (andM (asB (op2 (inD true) (getM 6) (lstM (guardL (consM (pureM (.str "large")) (consM (pureM .none) (pureM []))))))) (asB (op2 (isBD true) (callM h_check_broken ns (datsM (consM (getM 3) (consM (getM 4) (consM (getM 5) (consM (getM 6) (pureM []))))))) (pureM (.bool true))))))
  (seqM (retM (pureM (.bool false)))
  nextM)
  nextM)
  (seqM (asgF (guardL (pureM [])) 8)
  (seqM (asgM (pureM (.bool false)) (putM 9))
  (seqM (forS (srcA rng1 (consM (op2 addD (getM 3) (pureM (.int 1))) (pureM []))) (putM 10)
  (seqM (ifM (notM (asB (getM 9)))
  (seqM (asgM (lstM (lcM (srcM (callM h_L_sets ns (datsM (consM (getM 3) (consM (getM 10) (pureM [])))))) (putM 21) yesM (tupM (consM (getM 21) (consM (callM h_L_first ns (datsM (consM (getM 3) (consM (getM 4) (consM (getM 21) (pureM [])))))) (pureM [])))) [21])) (putM 11))
  (seqM (asgM (lstM (lcM (srcM (getM 11)) (tupG 2 (gConsM (putM 21) (gConsM (putM 22) gNilM))) (asB (op2 (isND true) (getM 22) (pureM .none))) (getM 21) [21, 22])) (putM 12))
  (seqM (asgM (callM h_L_told ns (datsM (consM (pureM (.int 3)) (consM (getM 3) (consM (getM 4) (consM (getM 10) (pureM []))))))) (putM 13))
  (seqM (ifM (asB (op2 (inD false) (pureM (.str "large")) (lstM (lcM (srcM (getM 11)) (tupG 2 (gConsM (putM 21) (gConsM (putM 22) gNilM))) yesM (getM 22) [21, 22]))))
  (seqM (ifM (asB (op2 neD (getM 13) (pureM (.str "large"))))
  (seqM (retM (pureM (.bool false)))
  nextM)
  nextM)
  (seqM (appM 8 (pureM .none))
  nextM))
  (seqM (ifM (notM (asB (callM h_L_same ns (datsM (consM (getM 13) (consM (tupM (consM (pureM (.str "told")) (consM (getM 12) (pureM [])))) (pureM [])))))))
  (seqM (retM (pureM (.bool false)))
  nextM)
  (seqM (appM 8 (opN lenD (consM (getM 12) (pureM []))))
  nextM))
  nextM))
  (seqM (asgM (op2 neD (ixV 8 (op1 negD (pureM (.int 1)))) (pureM (.int 0))) (putM 9))
  nextM)))))
  nextM)
  nextM))
  (seqM (asgM (op2 subD (opN lenD (consM (lstM (lcM (srcM (getM 8)) (putM 22) (asB (op2 eqD (getM 22) (pureM (.int 0)))) (getM 22) [22])) (pureM []))) (pureM (.int 1))) (putM 14))
  (seqM (asgM (tupM (consM (pureM (.str "told")) (consM (getM 14) (pureM [])))) (putM 15))
  (seqM (ifM (asB (op2 (inD false) (pureM .none) (getM 8)))
  (seqM (asgM (pureM (.str "large")) (putM 15))
  nextM)
  nextM)
  (seqM (ifM (notM (asB (callM h_L_same ns (datsM (consM (callM h_L_told ns (datsM (consM (pureM (.int 0)) (consM (getM 3) (consM (getM 4) (consM (pureM (.int 0)) (pureM []))))))) (consM (getM 15) (pureM [])))))))
  (seqM (retM (pureM (.bool false)))
  nextM)
  nextM)
  (seqM (ifM (andM (asB (op2 gtD (getM 3) (op2 mulXD (pureM (.int 3)) (getM 4)))) (andM (asB (op2 gtD (getM 4) (pureM (.int 0)))) (andM (asB (op2 neD (ixV 8 (pureM (.int 1))) (pureM (.int 0)))) (asB (op2 ltD (getM 4) (pureM (.int 2)))))))
  (seqM (retM (pureM (.bool false)))
  nextM)
  nextM)
  (seqM (asgM (lstM (guardL (consM (callM h_L_told ns (datsM (consM (pureM (.int 0)) (consM (pureM (.int 0)) (consM (pureM (.int 0)) (consM (pureM (.int 0)) (pureM []))))))) (consM (callM h_L_told ns (datsM (consM (pureM (.int 1)) (consM (getM 3) (consM (getM 4) (consM (tupM (consM (getM 3) (pureM []))) (pureM []))))))) (consM (callM h_L_told ns (datsM (consM (pureM (.int 2)) (consM (getM 3) (consM (getM 4) (consM (tupM (consM (pureM (.int 1)) (consM (pureM (.int 0)) (pureM [])))) (pureM []))))))) (consM (callM h_L_told ns (datsM (consM (pureM (.int 3)) (consM (getM 3) (consM (getM 4) (consM (op1 negD (pureM (.int 1))) (pureM []))))))) (consM (callM h_L_told ns (datsM (consM (pureM (.int 0)) (consM (getM 3) (consM (op1 negD (pureM (.int 1))) (consM (pureM (.int 0)) (pureM []))))))) (pureM [])))))))) (putM 16))
  (seqM (asgM (lstM (guardL (consM (callM h_L_told ns (datsM (consM (pureM (.int 0)) (consM (pureM (.int 6)) (consM (pureM (.int 0)) (consM (pureM (.int 0)) (pureM []))))))) (consM (callM h_L_told ns (datsM (consM (pureM (.int 1)) (consM (getM 3) (consM (pureM (.int 3)) (consM (tupM (pureM [])) (pureM []))))))) (consM (callM h_L_told ns (datsM (consM (pureM (.int 2)) (consM (pureM (.int 6)) (consM (pureM (.int 0)) (consM (tupM (pureM [])) (pureM []))))))) (consM (callM h_L_told ns (datsM (consM (pureM (.int 3)) (consM (getM 3) (consM (getM 4) (consM (op2 addD (getM 3) (pureM (.int 1))) (pureM []))))))) (pureM []))))))) (putM 17))
  (seqM (ifM (orM (asB (op2 neD (getM 16) (op2 mulXD (lstM (guardL (consM (pureM (.str "refused")) (pureM [])))) (pureM (.int 5))))) (asB (op2 neD (getM 17) (op2 mulXD (lstM (guardL (consM (pureM (.str "large")) (pureM [])))) (pureM (.int 4))))))
  (seqM (retM (pureM (.bool false)))
  nextM)
  nextM)
  nextM)))))))))))))))))))
  (seqM (asgM (lstM (lcM (srcA rng1 (consM (pureM (.int 3)) (pureM []))) (putM 4) yesM (callM h_L_told ns (datsM (consM (pureM (.int 3)) (consM (pureM (.int 3)) (consM (getM 4) (consM (pureM (.int 1)) (pureM []))))))) [4])) (putM 18))
  (seqM (retM (andV (op2 neD (op2 ixD (getM 18) (pureM (.int 0))) (tupM (consM (pureM (.str "told")) (consM (lstM (guardL (pureM []))) (pureM []))))) (andV (op2 eqD (op2 ixD (getM 18) (pureM (.int 1))) (tupM (consM (pureM (.str "told")) (consM (lstM (guardL (consM (tupM (consM (pureM (.int 1)) (pureM []))) (consM (tupM (consM (pureM (.int 2)) (pureM []))) (pureM []))))) (pureM []))))) (andV (op2 eqD (callM h_L_told ns (datsM (consM (pureM (.int 0)) (consM (pureM (.int 4)) (consM (pureM (.int 1)) (consM (pureM (.int 0)) (pureM []))))))) (tupM (consM (pureM (.str "told")) (consM (pureM (.int 1)) (pureM []))))) (op2 eqD (callM h_L_told ns (datsM (consM (pureM (.int 0)) (consM (pureM (.int 5)) (consM (pureM (.int 1)) (consM (pureM (.int 0)) (pureM []))))))) (tupM (consM (pureM (.str "told")) (consM (pureM (.int 1)) (pureM [])))))))))
  nextM)))
theorem ok_law (T : Txt K mg) {f : Addr} {fd : FuncData} (F : Fun K "law" "law" s_law f fd) (str : StrD P w K mg base 1) (c_L_told : CalD P w K mg base "_law_told" 10 h_L_told) (c_L_same : CalD P w K mg base "_law_same" 1 h_L_same) (c_L_sets : CalD P w K mg base "_law_sets" 1 h_L_sets) (c_L_first : CalD P w K mg base "_law_first" 2 h_L_first) (c_check_broken : CalD P w K mg base "check_broken" 7 h_check_broken) (c_L_next : CalD P w K mg base "_law_next" 1 h_L_next) (ok : LawOk 21 m_law) : FnG P w K mg base 11 f fd ["script"] (spLaw K) := by
  have nd := sc_law.nd
  obtain ⟨fS, fdS, FS, gS, kS, bS⟩ := str.ex
  refine law_ok (k := 10) F sc_law rfl ok fun cdv A outer s H E hr hgu hu => ?_
  have pr : ∀ stc : Option StC, DSs (cx (cxOf (L2N.CX P w) P w K mg base N_law "law" (defScope s_law) f cdv A outer s H E) stc fun _ => E) (cxOf (L2N.CX P w) P w K mg base N_law "law" (defScope s_law) f cdv A outer s H E) ((defBody s_law).drop 1) (m_law (nsOf stc)) := fun stc =>
    (sscons (sfor (L2.passes_of rfl) rfl (irng1 T.n_range (acons gint anil)) (hname 2 nd)
  (sscons (sset 3 nd (gadd gint (gcall c_L_next (hr.mono (by decide)) hgu (exB (L2N.takes_of rfl rfl rfl rfl)) (xsta 1 (acons gint anil)))))
  (sscons (sset 4 nd (gcall c_L_next (hr.mono (by decide)) hgu (exB (L2N.takes_of rfl rfl rfl rfl)) (xsta 1 (acons (gix (glst (acons gint (acons gint (acons gint (acons gint (acons gint anil)))))) (gsub (gv 3) gint)) anil))))
  (sscons (sset 5 nd (gct call_tuple_of vn_tupleOf PyProof.Rows.boot_tuple T.n_tuple (acons (gF (flc [("node", 19)] rfl nd (blkOk_by (N := N_law) (sc := defScope s_law) (by decide +kernel)) (irng1 T.n_range (acons (gv 3) anil)) (fun _ _ _ _ _ => (hname 19 nd)) (fun _ _ _ _ _ => (tsone (tcmp (op_eqD (u64 hu)) v2_eq (gcall c_L_next (hr.mono (by decide)) hgu exq (xsta 1 (acons gint anil))) gint))) (fun _ _ _ _ _ => (gv 19)))) anil)))
  (sscons (sset 6 nd (gcall c_L_first (hr.mono (by decide)) hgu (exB (L2N.takes_of rfl rfl rfl rfl)) (xdat (acons (gv 3) (acons (gv 4) (acons (gv 5) anil))))))
  (sscons (sset 7 nd (glst (acons gstr (acons gstr anil))))
  (sscons (sif (tcmp (op_neD (u64 hu)) v2_ne (gv 6) gstr)
  (sscons (sset 7 nd (glst (acons (gtup (acons gstr (acons (gcmp op_isN v2_isN (gv 6) gnon) anil))) (acons (gix (glst (acons gstr (acons (gtup (acons gstr (acons (gv 6) anil))) anil))) (gct call_int1 vn_int PyProof.Rows.boot_int T.n_int (acons (gcmp op_notN v2_notN (gv 6) gnon) anil))) anil))))
  ssnil)
  ssnil)
  (sscons (sif (tw (wor (tnot (tval (gcall c_L_same (hr.mono (by decide)) hgu (exB (L2N.takes_of rfl rfl rfl rfl)) (xdat (acons (gF (flc [("k", 20)] rfl nd (blkOk_by (N := N_law) (sc := defScope s_law) (by decide +kernel)) (ilist (glst (acons gint (acons gint anil)))) (fun _ _ _ _ _ => (hname 20 nd)) (fun _ _ _ _ _ => tsnil) (fun _ _ _ _ _ => (gcall c_L_told (hr.mono (by decide)) hgu exq (xdat (acons (gv 20) (acons (gv 3) (acons (gv 4) (acons (gv 5) anil))))))))) (acons (gv 7) anil)))))) (wor1 (tw (wand (tcmp (op_notInX hu) v2_in (gv 6) (glst (acons gstr (acons gnon anil)))) (wand1 (tcmp op_notBl v2_notB (gcall c_check_broken (hr.mono (by decide)) hgu (exB (L2N.takes_of rfl rfl rfl rfl)) (xdat (acons (gv 3) (acons (gv 4) (acons (gv 5) (acons (gv 6) anil)))))) gbl)))))))
  (sscons (sret gbl)
  ssnil)
  ssnil)
  (sscons (ssetF 8 nd (flst anil))
  (sscons (sset 9 nd gbl)
  (sscons (sfor (L2.passes_of rfl) rfl (irng1 T.n_range (acons (gadd (gv 3) gint) anil)) (hname 10 nd)
  (sscons (sif (tnot (tval (gv 9)))
  (sscons (slc 11 [("some", 21)] .dat rfl nd (blkOk_by (N := N_law) (sc := defScope s_law) (by decide +kernel)) (sw_true rfl rfl rfl (by decide +kernel)) (ilist (gcall c_L_sets (hr.mono (by decide)) hgu (exB (L2N.takes_of rfl rfl rfl rfl)) (xdat (acons (gv 3) (acons (gv 10) anil))))) (fun _ _ _ _ _ => (hname 21 nd)) (fun _ _ _ _ _ => tsnil) (fun _ _ _ _ _ => (gtup (acons (gv 21) (acons (gcall c_L_first (hr.mono (by decide)) hgu exq (xdat (acons (gv 3) (acons (gv 4) (acons (gv 21) anil))))) anil)))))
  (sscons (slc 12 [("some", 21), ("one", 22)] .dat rfl nd (blkOk_by (N := N_law) (sc := defScope s_law) (by decide +kernel)) (sw_true rfl rfl rfl (by decide +kernel)) (ilist (gv 11)) (fun _ _ _ _ _ => (htup 2 rfl (hcons (hname 21 nd) (hcons (hname 22 nd) hnil)))) (fun _ _ _ _ _ => (tsone (tcmp op_notN v2_notN (gv 22) gnon))) (fun _ _ _ _ _ => (gv 21)))
  (sscons (sset 13 nd (gcall c_L_told (hr.mono (by decide)) hgu (exB (L2N.takes_of rfl rfl rfl rfl)) (xdat (acons gint (acons (gv 3) (acons (gv 4) (acons (gv 10) anil)))))))
  (sscons (sif (tcmp (op_inX hu) v2_in gstr (gF (flc [("some", 21), ("one", 22)] rfl nd (blkOk_by (N := N_law) (sc := defScope s_law) (by decide +kernel)) (ilist (gv 11)) (fun _ _ _ _ _ => (htup 2 rfl (hcons (hname 21 nd) (hcons (hname 22 nd) hnil)))) (fun _ _ _ _ _ => tsnil) (fun _ _ _ _ _ => (gv 22)))))
  (sscons (sif (tcmp (op_neD (u64 hu)) v2_ne (gv 13) gstr)
  (sscons (sret gbl)
  ssnil)
  ssnil)
  (sscons (sapp 8 gnon)
  ssnil))
  (sscons (sif (tnot (tval (gcall c_L_same (hr.mono (by decide)) hgu (exB (L2N.takes_of rfl rfl rfl rfl)) (xdat (acons (gv 13) (acons (gtup (acons gstr (acons (gv 12) anil))) anil))))))
  (sscons (sret gbl)
  ssnil)
  (sscons (sapp 8 (gcb call_len vn_len PySem.boot_len T.n_len (acons (gv 12) anil)))
  ssnil))
  ssnil))
  (sscons (sset 9 nd (gcmp (op_neD (u64 hu)) v2_ne (gixV 8 (gneg gint)) gint))
  ssnil)))))
  ssnil)
  ssnil))
  (sscons (sset 14 nd (gsub (gcb call_len vn_len PySem.boot_len T.n_len (acons (gF (flc [("one", 22)] rfl nd (blkOk_by (N := N_law) (sc := defScope s_law) (by decide +kernel)) (ilist (gv 8)) (fun _ _ _ _ _ => (hname 22 nd)) (fun _ _ _ _ _ => (tsone (tcmp (op_eqD (u64 hu)) v2_eq (gv 22) gint))) (fun _ _ _ _ _ => (gv 22)))) anil)) gint))
  (sscons (sset 15 nd (gtup (acons gstr (acons (gv 14) anil))))
  (sscons (sif (tcmp (op_inX hu) v2_in gnon (gv 8))
  (sscons (sset 15 nd gstr)
  ssnil)
  ssnil)
  (sscons (sif (tnot (tval (gcall c_L_same (hr.mono (by decide)) hgu (exB (L2N.takes_of rfl rfl rfl rfl)) (xdat (acons (gcall c_L_told (hr.mono (by decide)) hgu (exB (L2N.takes_of rfl rfl rfl rfl)) (xdat (acons gint (acons (gv 3) (acons (gv 4) (acons gint anil)))))) (acons (gv 15) anil))))))
  (sscons (sret gbl)
  ssnil)
  ssnil)
  (sscons (sif (tw (wand (tcmp op_gt v2_gt (gv 3) (gmul gint (gv 4))) (wand (tcmp op_gt v2_gt (gv 4) gint) (wand (tcmp (op_neD (u64 hu)) v2_ne (gixV 8 gint) gint) (wand1 (tcmp op_lt v2_lt (gv 4) gint))))))
  (sscons (sret gbl)
  ssnil)
  ssnil)
  (sscons (sset 16 nd (glst (acons (gcall c_L_told (hr.mono (by decide)) hgu (exB (L2N.takes_of rfl rfl rfl rfl)) (xdat (acons gint (acons gint (acons gint (acons gint anil)))))) (acons (gcall c_L_told (hr.mono (by decide)) hgu (exB (L2N.takes_of rfl rfl rfl rfl)) (xdat (acons gint (acons (gv 3) (acons (gv 4) (acons (gtup (acons (gv 3) anil)) anil)))))) (acons (gcall c_L_told (hr.mono (by decide)) hgu (exB (L2N.takes_of rfl rfl rfl rfl)) (xdat (acons gint (acons (gv 3) (acons (gv 4) (acons (gtup (acons gint (acons gint anil))) anil)))))) (acons (gcall c_L_told (hr.mono (by decide)) hgu (exB (L2N.takes_of rfl rfl rfl rfl)) (xdat (acons gint (acons (gv 3) (acons (gv 4) (acons (gneg gint) anil)))))) (acons (gcall c_L_told (hr.mono (by decide)) hgu (exB (L2N.takes_of rfl rfl rfl rfl)) (xdat (acons gint (acons (gv 3) (acons (gneg gint) (acons gint anil)))))) anil)))))))
  (sscons (sset 17 nd (glst (acons (gcall c_L_told (hr.mono (by decide)) hgu (exB (L2N.takes_of rfl rfl rfl rfl)) (xdat (acons gint (acons gint (acons gint (acons gint anil)))))) (acons (gcall c_L_told (hr.mono (by decide)) hgu (exB (L2N.takes_of rfl rfl rfl rfl)) (xdat (acons gint (acons (gv 3) (acons gint (acons (gtup anil) anil)))))) (acons (gcall c_L_told (hr.mono (by decide)) hgu (exB (L2N.takes_of rfl rfl rfl rfl)) (xdat (acons gint (acons gint (acons gint (acons (gtup anil) anil)))))) (acons (gcall c_L_told (hr.mono (by decide)) hgu (exB (L2N.takes_of rfl rfl rfl rfl)) (xdat (acons gint (acons (gv 3) (acons (gv 4) (acons (gadd (gv 3) gint) anil)))))) anil))))))
  (sscons (sif (tw (wor (tcmp (op_neD (u64 hu)) v2_ne (gv 16) (gmul (glst (acons gstr anil)) gint)) (wor1 (tcmp (op_neD (u64 hu)) v2_ne (gv 17) (gmul (glst (acons gstr anil)) gint)))))
  (sscons (sret gbl)
  ssnil)
  ssnil)
  ssnil)))))))))))))))))))
  (sscons (slc 18 [("depth", 4)] .dat rfl nd (blkOk_by (N := N_law) (sc := defScope s_law) (by decide +kernel)) (sw_true rfl rfl rfl (by decide +kernel)) (irng1 T.n_range (acons gint anil)) (fun _ _ _ _ _ => (hname 4 nd)) (fun _ _ _ _ _ => tsnil) (fun _ _ _ _ _ => (gcall c_L_told (hr.mono (by decide)) hgu exq (xdat (acons gint (acons gint (acons (gv 4) (acons gint anil))))))))
  (sscons (sret (gand (gcmp (op_neD (u64 hu)) v2_ne (gix (gv 18) gint) (gtup (acons gstr (acons (glst anil) anil)))) (gand (gcmp (op_eqD (u64 hu)) v2_eq (gix (gv 18) gint) (gtup (acons gstr (acons (glst (acons (gtup (acons gint anil)) (acons (gtup (acons gint anil)) anil))) anil)))) (gand (gcmp (op_eqD (u64 hu)) v2_eq (gcall c_L_told (hr.mono (by decide)) hgu (exB (L2N.takes_of rfl rfl rfl rfl)) (xdat (acons gint (acons gint (acons gint (acons gint anil)))))) (gtup (acons gstr (acons gint anil)))) (gone (gcmp (op_eqD (u64 hu)) v2_eq (gcall c_L_told (hr.mono (by decide)) hgu (exB (L2N.takes_of rfl rfl rfl rfl)) (xdat (acons gint (acons gint (acons gint (acons gint anil)))))) (gtup (acons gstr (acons gint anil)))))))))
  ssnil)))
  exact pss_cons (ps_set (i := 1) nd rfl (by first | exact Or.inl rfl | exact Or.inr rfl) (pe_lst (pa_cons (pe_callG FS (hr.mono (by decide)) hgu rfl gS kS bS (exB (L2N.takes_of rfl rfl rfl rfl)) (pa_cons (pv 0) pa_nil)) (pa_cons pe_int pa_nil)))) (pss_ex pr)
end
end K68

set_option Elab.async false
set_option linter.all false
set_option maxRecDepth 100000
set_option maxHeartbeats 4000000
namespace K68
open PySem PySem.Spec L2 DL
/-! the words -/
def nextW (m : Int) (ws : List (List Int)) : List (List Int) := ws.flatMap fun w => ((rngI 0 m).filter fun x => !w.contains x).map fun x => w ++ [x]
structure Wst where
  a : List (List Int)
  b : List (List Int)
  s : Slot
def stepW (m : Int) (w : Wst) (k : Int) : Wst := ⟨w.a ++ nextW m w.b, nextW m w.b, .dat (.int k)⟩
def W (m d : Int) : List (List Int) := ((rngI 0 (d + 1)).foldl (stepW m) ⟨[], [[0]], .no⟩).a
theorem big {n : Nat} (h : n ≤ 1000000) : n ≤ sizeLine := Nat.le_of_lt (small n h)
theorem next_len {m : Int} (hm : m ≤ 5) (ws : List (List Int)) : (nextW m ws).length ≤ ws.length * 5 := by
  induction ws with
  | nil => exact Nat.zero_le _
  | cons w r ih =>
    have h1 : (((rngI 0 m).filter fun x => !w.contains x).map fun x => w ++ [x]).length ≤ 5 := by
      rw [List.length_map]
      exact Nat.le_trans (List.length_filter_le _ _) (by rw [len_rngI]; omega)
    have h2 : nextW m (w :: r) = (((rngI 0 m).filter fun x => !w.contains x).map fun x => w ++ [x]) ++ nextW m r := rfl
    rw [h2, List.length_append, List.length_cons]
    omega
theorem next_word {m : Int} {ws : List (List Int)} {n : Nat} (h : ∀ w ∈ ws, w.length ≤ n) : ∀ w ∈ nextW m ws, w.length ≤ n + 1 := by
  intro w hw
  obtain ⟨u, hu, hw⟩ := List.mem_flatMap.mp hw
  obtain ⟨x, _, rfl⟩ := List.mem_map.mp hw
  have := h u hu
  rw [List.length_append]
  exact Nat.add_le_add_right this 1
def Sw (m d : Int) (ct : Int) (w : Wst) : Sg := ⟨[.dat (.int m), .dat (.int d), .own (w.a.map eT), .dat (.list (w.b.map eT)), w.s, .no, .no], ct⟩
theorem sum_const {α : Type} (ws : List α) (n : Nat) : (ws.map fun _ => n).sum = ws.length * n := by
  induction ws with
  | nil => simp
  | cons x r ih => rw [List.map_cons, List.sum_cons, ih, List.length_cons, Nat.succ_mul]; omega
theorem words_turn (m d ct : Int) (hm0 : 0 ≤ m) (hm : m ≤ 5) (k : Int) (w : Wst) (h1 : w.b.length ≤ 1000) (h2 : ∀ u ∈ w.b, u.length ≤ 1000) (h3 : w.a.length ≤ 1000) :
    goG (putM 4 (.int k)) (seqM (asgM (lstM (lc2M (srcM (getM 3)) (putM 5) yesM (srcA rng1 (consM (getM 0) (pureM []))) (putM 6) (asB (op2 (inD true) (getM 6) (getM 5))) (tupM (starM (getM 5) (consM (getM 6) (pureM [])))) [5, 6] [6])) (putM 3))
  (seqM (extM 2 (getM 3))
  nextM)) (Sw m d ct w) = .ok .next (Sw m d ct (stepW m w k)) := by
  show (seqM _ _) (Sw m d ct ⟨w.a, w.b, .dat (.int k)⟩) = _
  refine ev_next (g1 := ⟨[.dat (.int m), .dat (.int d), .own (w.a.map eT), .dat (.list ((nextW m w.b).map eT)), .dat (.int k), .no, .no], ct⟩) ?_ ?_
  · refine ev_asg (g1 := Sw m d ct ⟨w.a, w.b, .dat (.int k)⟩) (d := .list ((nextW m w.b).map eT)) ?_ rfl
    refine ev_bind (a := (nextW m w.b).map eT) (g1 := Sw m d ct ⟨w.a, w.b, .dat (.int k)⟩) ?_ rfl
    have := lc2T (src := srcM (getM 3)) (k := putM 5) (src1 := srcA rng1 (consM (getM 0) (pureM []))) (k1 := putM 6) (c1 := asB (op2 (inD true) (getM 6) (getM 5))) (e := tupM (starM (getM 5) (consM (getM 6) (pureM [])))) (vs := [5, 6]) (vs1 := [6]) (g := Sw m d ct ⟨w.a, w.b, .dat (.int k)⟩) (g1 := Sw m d ct ⟨w.a, w.b, .dat (.int k)⟩)
      eT PyData.int w.b (fun _ => rngI 0 m) (fun u x => !u.contains x) (fun u x => eT (u ++ [x])) rfl (fun u hu => by
        refine ⟨⟨[.dat (.int m), .dat (.int d), .own (w.a.map eT), .dat (.list (w.b.map eT)), .dat (.int k), .dat (eT u), .no], ct⟩, ⟨[.dat (.int m), .dat (.int d), .own (w.a.map eT), .dat (.list (w.b.map eT)), .dat (.int k), .dat (eT u), .no], ct⟩, rfl, ?_, rfl, ?_⟩
        · refine ev_bind (a := [.int m]) (g1 := ⟨[.dat (.int m), .dat (.int d), .own (w.a.map eT), .dat (.list (w.b.map eT)), .dat (.int k), .dat (eT u), .no], ct⟩) rfl ?_
          rw [rng1_i m (by omega) (by omega)]
          rfl
        · intro x hx
          refine ⟨⟨[.dat (.int m), .dat (.int d), .own (w.a.map eT), .dat (.list (w.b.map eT)), .dat (.int k), .dat (eT u), .dat (.int x)], ct⟩, ⟨[.dat (.int m), .dat (.int d), .own (w.a.map eT), .dat (.list (w.b.map eT)), .dat (.int k), .dat (eT u), .dat (.int x)], ct⟩, rfl, ?_, fun _ => rfl, fun _ => ⟨⟨[.dat (.int m), .dat (.int d), .own (w.a.map eT), .dat (.list (w.b.map eT)), .dat (.int k), .dat (eT u), .dat (.int x)], ct⟩, ?_, rfl⟩⟩
          · refine ev_bind (ev_op2 rfl rfl (in_T true x u)) ?_
            simp
            rfl
          · refine ev_bind (ev_bind rfl (ev_bind (a := u.map PyData.int) rfl (ev_bind (a := [.int x]) rfl rfl))) ?_
            rw [if_pos (by rw [List.length_append, List.length_map]; exact big (by have := h2 u hu; simp; omega))]
            show Res.ok (PyData.tuple _) _ = Res.ok (PyData.tuple _) _
            rw [List.map_append]
            rfl) (by rw [sum_const, len_rngI]; exact big (Nat.le_trans (Nat.mul_le_mul h1 (show (m - 0).toNat ≤ 5 by omega)) (by decide)))
    rw [this]
    show Res.ok _ _ = Res.ok _ _
    congr 1
    unfold nextW
    rw [List.map_flatMap]
    congr 1
    funext u
    rw [List.map_map]
    rfl
  · refine ev_next (g1 := Sw m d ct (stepW m w k)) ?_ rfl
    have hl : (nextW m w.b).length ≤ 5000 := Nat.le_trans (next_len hm w.b) (by omega)
    show (if (w.a.map eT).length + ((nextW m w.b).map eT).length ≤ sizeLine then Res.ok Fl.next ⟨[.dat (.int m), .dat (.int d), .own (w.a.map eT ++ (nextW m w.b).map eT), .dat (.list ((nextW m w.b).map eT)), .dat (.int k), .no, .no], ct⟩ else .bad) = _
    rw [if_pos (by rw [List.length_map, List.length_map]; exact big (by omega)), ← List.map_append]
    rfl
theorem known_words_tells (ns : List Int) (m d ct : Int) (hm0 : 0 ≤ m) (hm : m ≤ 5) (hd0 : -1 ≤ d) (hd : d ≤ 2) : Tells h_known_words ns [.dat (.int m), .dat (.int d)] ct (.list ((W m d).map eT)) ct := by
  have hf := forM_foldI (k := putM 4) (body := (seqM (asgM (lstM (lc2M (srcM (getM 3)) (putM 5) yesM (srcA rng1 (consM (getM 0) (pureM []))) (putM 6) (asB (op2 (inD true) (getM 6) (getM 5))) (tupM (starM (getM 5) (consM (getM 6) (pureM [])))) [5, 6] [6])) (putM 3))
  (seqM (extM 2 (getM 3))
  nextM))) PyData.int (Sw m d ct) (stepW m) (fun r w => r.length ≤ 3 ∧ w.b.length * 5 ^ r.length ≤ 125 ∧ (∀ u ∈ w.b, u.length + r.length ≤ 10) ∧ w.a.length + 200 * r.length ≤ 1000) (rngI 0 (d + 1)) (fun k r w _ hI => by
      obtain ⟨h0, h1, h2, h3⟩ := hI
      rw [List.length_cons] at h0 h1 h3
      have p5 : 0 < 5 ^ r.length := Nat.pow_pos (by decide)
      have hb : w.b.length * 5 ≤ 125 := by
        rw [Nat.pow_succ] at h1
        have : w.b.length * 5 * 1 ≤ w.b.length * 5 * 5 ^ r.length := Nat.mul_le_mul_left _ p5
        have e : w.b.length * 5 * 5 ^ r.length = w.b.length * (5 ^ r.length * 5) := by rw [Nat.mul_assoc, Nat.mul_comm 5]
        omega
      have hn := next_len hm w.b
      refine ⟨words_turn m d ct hm0 hm k w (by omega) (fun u hu => by have := h2 u hu; rw [List.length_cons] at this; omega) (by omega), by omega, ?_, ?_, ?_⟩
      · show (nextW m w.b).length * 5 ^ r.length ≤ 125
        have : (nextW m w.b).length * 5 ^ r.length ≤ w.b.length * 5 * 5 ^ r.length := Nat.mul_le_mul_right _ hn
        rw [Nat.pow_succ, Nat.mul_comm (5 ^ r.length), ← Nat.mul_assoc] at h1
        omega
      · intro u hu
        obtain ⟨n, hn⟩ : ∃ n, n + (r.length + 1) = 10 := ⟨10 - (r.length + 1), by omega⟩
        have := next_word (m := m) (ws := w.b) (n := n) (fun u hu => by have := h2 u hu; rw [List.length_cons] at this; omega) u hu
        omega
      · show (w.a ++ nextW m w.b).length + _ ≤ _
        rw [List.length_append]
        omega) ⟨[], [[0]], .no⟩ (by
        have hl : (rngI 0 (d + 1)).length ≤ 3 := by rw [len_rngI]; omega
        refine ⟨hl, ?_, ?_, ?_⟩
        · show 1 * 5 ^ _ ≤ 125
          have : 5 ^ (rngI 0 (d + 1)).length ≤ 5 ^ 3 := Nat.pow_le_pow_right (by decide) hl
          omega
        · intro u hu
          obtain rfl := List.mem_singleton.mp hu
          show 1 + _ ≤ 10
          omega
        · show 0 + _ ≤ _
          omega)
  refine tells_fn (g := ⟨(Sw m d ct ((rngI 0 (d + 1)).foldl (stepW m) ⟨[], [[0]], .no⟩)).sl.set 2 (.dat (.list ((W m d).map eT))), ct⟩) rfl ?_
  refine ev_next (g1 := Sw m d ct ⟨[], [[0]], .no⟩) rfl (ev_next (g1 := Sw m d ct ((rngI 0 (d + 1)).foldl (stepW m) ⟨[], [[0]], .no⟩)) (ev_for (xs := (rngI 0 (d + 1)).map PyData.int) (g1 := Sw m d ct ⟨[], [[0]], .no⟩) ?_ hf.1) ?_)
  · refine ev_bind (a := [.int (d + 1)]) (g1 := Sw m d ct ⟨[], [[0]], .no⟩) rfl ?_
    rw [rng1_i (d + 1) (by omega) (by omega)]
    rfl
  · exact ev_stop (ev_ret rfl) (fun z => nomatch z)
end K68

set_option Elab.async false
set_option linter.all false
set_option maxRecDepth 100000
set_option maxHeartbeats 4000000
namespace K68
open PySem PySem.Spec L2 DL
/-! facts about the words of the cases -/
def cs : List (Int × Int) := [(1, 0), (1, 1), (1, 2), (2, 0), (2, 1), (2, 2), (3, 0), (3, 1), (3, 2), (4, 0), (4, 1), (4, 2), (5, 0), (5, 1)]
def Case (m d : Int) : Prop := (m, d) ∈ cs
theorem Case.bounds {m d : Int} (h : Case m d) : 1 ≤ m ∧ m ≤ 5 ∧ 0 ≤ d ∧ d ≤ 2 := by
  have : ∀ p ∈ cs, 1 ≤ p.1 ∧ p.1 ≤ 5 ∧ 0 ≤ p.2 ∧ p.2 ≤ 2 := by decide +kernel
  exact this (m, d) h
def prefOk (acc : List (List Int)) : List (List Int) → Bool
  | [] => true
  | w :: r => acc.contains (ini w) && !acc.contains w && prefOk (acc ++ [w]) r
theorem W_len {m d : Int} (h : Case m d) : ∀ w ∈ W m d, 2 ≤ w.length ∧ w.length ≤ d.toNat + 2 := by
  have : ∀ p ∈ cs, ∀ w ∈ W p.1 p.2, 2 ≤ w.length ∧ w.length ≤ p.2.toNat + 2 := by decide +kernel
  exact this (m, d) h
theorem W_count {m d : Int} (h : Case m d) : (W m d).length ≤ 100 := by
  have : ∀ p ∈ cs, (W p.1 p.2).length ≤ 100 := by decide +kernel
  exact this (m, d) h
theorem W_nodup {m d : Int} (h : Case m d) : (W m d).Nodup := by
  have : ∀ p ∈ cs, (W p.1 p.2).Nodup := by decide +kernel
  exact this (m, d) h
theorem W_pref {m d : Int} (h : Case m d) : prefOk [[0]] (W m d) = true := by
  have : ∀ p ∈ cs, prefOk [[0]] (W p.1 p.2) = true := by decide +kernel
  exact this (m, d) h
theorem W_first {m d : Int} (h : Case m d) : ∀ x ∈ rngI 1 m, [0, x] ∈ W m d := by
  have : ∀ p ∈ cs, ∀ x ∈ rngI 1 p.1, [0, x] ∈ W p.1 p.2 := by decide +kernel
  exact this (m, d) h
theorem W_child {m d : Int} (h : Case m d) : ∀ w ∈ W m d, w.length < d.toNat + 2 → ∀ x ∈ rngI 0 m, x ∉ w → (ini w ++ [x]) ++ [lst w] ∈ W m d := by
  have : ∀ p ∈ cs, ∀ w ∈ W p.1 p.2, w.length < p.2.toNat + 2 → ∀ x ∈ rngI 0 p.1, x ∉ w → (ini w ++ [x]) ++ [lst w] ∈ W p.1 p.2 := by decide +kernel
  exact this (m, d) h
/-! the words that a liar passes on -/
def lyW (liars : List Int) (w : List Int) : Bool := liars.contains (pen w)
def L (m d : Int) (liars : List Int) : List (List Int) := (W m d).filter (lyW liars)
theorem known_lying_tells (ns : List Int) (m d : Int) (liars : List Int) (ct : Int) (h : Case m d) : Tells h_known_lying ns [.dat (.int m), .dat (.int d), .dat (eT liars)] ct (.list ((L m d liars).map eT)) ct := by
  obtain ⟨b1, b2, b3, b4⟩ := h.bounds
  refine tells_fn (g := ⟨[.dat (.int m), .dat (.int d), .dat (eT liars), .no], ct⟩) rfl ?_
  refine ev_stop (ev_ret (g1 := ⟨[.dat (.int m), .dat (.int d), .dat (eT liars), .no], ct⟩) (ev_bind (a := (L m d liars).map eT) (g1 := ⟨[.dat (.int m), .dat (.int d), .dat (eT liars), .no], ct⟩) ?_ rfl)) (fun z => nomatch z)
  refine lcT (g1 := ⟨[.dat (.int m), .dat (.int d), .dat (eT liars), .no], ct⟩) eT (W m d) (lyW liars) eT ?_ (fun w hw => ?_) (big (Nat.le_trans (W_count h) (by decide)))
  · exact ev_bind (ev_call (g1 := ⟨[.dat (.int m), .dat (.int d), .dat (eT liars), .no], ct⟩) rfl (known_words_tells ns m d ct (by omega) b2 (by omega) b4)) rfl
  · refine ⟨⟨[.dat (.int m), .dat (.int d), .dat (eT liars), .dat (eT w)], ct⟩, ⟨[.dat (.int m), .dat (.int d), .dat (eT liars), .dat (eT w)], ct⟩, rfl, ?_, fun _ => rfl, fun _ => ⟨_, rfl, rfl⟩⟩
    refine ev_bind (ev_op2 (ev_op2 rfl rfl (ix_pen (W_len h w hw).1)) rfl (in_T false _ liars)) ?_
    show Res.ok (false != lyW liars w) _ = _
    rw [Bool.false_bne]
/-! what is told -/
def toldL (ly : List Int → Bool) : List (List Int) → List Int → List (List Int × Int) → List (List Int × Int)
  | [], _, acc => acc
  | w :: r, ls, acc => if ly w = true then toldL ly r ls.tail (acc ++ [(w, ls.headD 0)]) else toldL ly r ls (acc ++ [(w, lookZ acc (ini w))])
def A (m d : Int) (liars : List Int) (o : Int) (lies : List Int) : List (List Int × Int) := toldL (lyW liars) (W m d) lies [([0], o)]
theorem toldL_keys (ly : List Int → Bool) : ∀ (ws : List (List Int)) (ls : List Int) (acc : List (List Int × Int)), (toldL ly ws ls acc).map (·.1) = acc.map (·.1) ++ ws
  | [], ls, acc => by simp [toldL]
  | w :: r, ls, acc => by
    unfold toldL
    split
    · rw [toldL_keys]; simp
    · rw [toldL_keys]; simp
theorem A_look {m d : Int} {liars : List Int} {o : Int} {lies : List Int} {w : List Int} (h : w ∈ W m d) : look (A m d liars o lies) w = some (lookZ (A m d liars o lies) w) := by
  apply look_some
  unfold A
  rw [toldL_keys]
  exact List.mem_append_right _ h
def St (m d : Int) (liars : List Int) (o : Int) (lies : List Int) (k5 k6 : List (List Key × D)) (s : Slot) (ct : Int) : Sg := ⟨[.dat (.int m), .dat (.int d), .dat (eT liars), .dat (.int o), .dat (eT lies), .ownT k5, .ownT k6, s, .no], ct⟩
theorem told_turn (m d : Int) (liars : List Int) (o : Int) (lies : List Int) (k5 k6 : List (List Key × D)) (s : Slot) (ct : Int) (w : List Int) (q : Option Int) (v : Int) (hw : 1 ≤ w.length) (hq : valD k5 (kT w) = q.map PyData.int) (hv : valD k6 (kT (ini w)) = some (.int v)) (hz : k6.length < 1000) :
    goG (putM 7 (eT w)) (seqM (dputM 6 (getM 7) (dget2V 5 (getM 7) (dgetV 6 (sliceM (getM 7) (pureM none) (partM (op1 negD (pureM (.int 1))))))))
  nextM) (St m d liars o lies k5 k6 s ct) = .ok .next (St m d liars o lies k5 (putD k6 (kT w) (.int (q.getD v))) (.dat (eT w)) ct) := by
  show (seqM _ _) (St m d liars o lies k5 k6 (.dat (eT w)) ct) = _
  refine ev_next ?_ rfl
  have e1 : (sliceM (getM 7) (pureM none) (partM (op1 negD (pureM (.int 1))))) (St m d liars o lies k5 k6 (.dat (eT w)) ct) = .ok (eT (ini w)) (St m d liars o lies k5 k6 (.dat (eT w)) ct) :=
    ev_bind rfl (ev_bind rfl (ev_bind (a := some (-1)) (g1 := St m d liars o lies k5 k6 (.dat (eT w)) ct) rfl (by rw [cut_ini hw]; rfl)))
  have e2 : (dgetV 6 (sliceM (getM 7) (pureM none) (partM (op1 negD (pureM (.int 1)))))) (St m d liars o lies k5 k6 (.dat (eT w)) ct) = .ok (.int v) (St m d liars o lies k5 k6 (.dat (eT w)) ct) := 
    ev_dgetV rfl e1 ((findV_T rfl (ini w)).trans (by rw [hv]))
  have e3 : (dget2V 5 (getM 7) (dgetV 6 (sliceM (getM 7) (pureM none) (partM (op1 negD (pureM (.int 1))))))) (St m d liars o lies k5 k6 (.dat (eT w)) ct) = .ok (.int (q.getD v)) (St m d liars o lies k5 k6 (.dat (eT w)) ct) := by
    have := ev_dget2V (i := 5) (f := getM 7) (k := eT w) (g := St m d liars o lies k5 k6 (.dat (eT w)) ct) (o := q.map PyData.int) rfl rfl e2 ((findV_T rfl w).trans (by rw [hq]))
    rw [this]
    cases q <;> rfl
  exact ev_dputT (i := 6) (fk := getM 7) (w := w) (g1 := St m d liars o lies k5 k6 (.dat (eT w)) ct) (g2 := St m d liars o lies k5 k6 (.dat (eT w)) ct) (kvs := k6) e3 rfl rfl rfl (small _ (by omega))
end K68

set_option Elab.async false
set_option linter.all false
set_option maxRecDepth 100000
set_option maxHeartbeats 4000000
namespace K68
open PySem PySem.Spec L2 DL
theorem forM_rel {α : Type} {k : D → M Unit} {body : M Fl} {enc : α → D} (I : List α → Sg → Prop) (step : ∀ x r g, I (x :: r) g → ∃ g', goG (k (enc x)) body g = .ok .next g' ∧ I r g') : ∀ xs g, I xs g → ∃ g', forM (xs.map enc) k body g = .ok .next g' ∧ I [] g'
  | [], g, h => ⟨g, rfl, h⟩
  | x :: r, g, h => by
    obtain ⟨g', e, z⟩ := step x r g h
    have e2 : forM ((x :: r).map enc) k body g = (goG (k (enc x)) body g).bind fun f => match f with
      | .next => forM (r.map enc) k body
      | .cont => forM (r.map enc) k body
      | .brk => nextM
      | .ret d => pureM (.ret d) := by
      show goG (k (enc x)) (bindM body _) g = _
      unfold goG
      cases k (enc x) g <;> rfl
    rw [e2, e]
    exact forM_rel I step r g' z
theorem prefOk_fresh : ∀ {r acc : List (List Int)}, prefOk acc r = true → ∀ w ∈ r, w ∉ acc
  | w :: r, acc, h, w', hw => by
    unfold prefOk at h
    simp only [Bool.and_eq_true] at h
    rcases List.mem_cons.mp hw with e | hw
    · subst e
      simpa using h.1.2
    · intro z
      exact prefOk_fresh h.2 w' hw (List.mem_append_left _ z)
theorem look_cons (w : List Int) (v : Int) (ps : List (List Int × Int)) (k : List Int) : look ((w, v) :: ps) k = if w = k then some v else look ps k := by
  unfold look
  by_cases e : w = k
  · simp [e]
  · simp [e]
theorem zip_keys {α β : Type} : ∀ (xs : List α) (ys : List β), ∀ x ∈ (xs.zip ys).map (·.1), x ∈ xs
  | [], _, x, h => by simp at h
  | _ :: _, [], x, h => by simp at h
  | a :: xs, b :: ys, x, h => by
    rw [List.zip_cons_cons, List.map_cons] at h
    rcases List.mem_cons.mp h with e | h
    · rw [e]; exact List.mem_cons_self
    · exact List.mem_cons_of_mem _ (zip_keys xs ys x h)
structure ToldI (m d : Int) (liars : List Int) (o : Int) (lies : List Int) (k5 : List (List Key × D)) (ct : Int) (r : List (List Int)) (g : Sg) : Prop where
  ex : ∃ (k6 : List (List Key × D)) (ps : List (List Int × Int)) (ls : List Int) (s : Slot), g = St m d liars o lies k5 k6 s ct ∧ DicOf k6 ps ∧ prefOk (ps.map (·.1)) r = true ∧ toldL (lyW liars) r ls ps = A m d liars o lies ∧ k6.length + r.length ≤ 200 ∧
    (r.filter (lyW liars)).length = ls.length ∧ (∀ w ∈ r, valD k5 (kT w) = (look ((r.filter (lyW liars)).zip ls) w).map PyData.int) ∧ ∀ w ∈ r, 1 ≤ w.length
theorem told_step (m d : Int) (liars : List Int) (o : Int) (lies : List Int) (k5 : List (List Key × D)) (ct : Int) (w : List Int) (r : List (List Int)) (g : Sg) (h : ToldI m d liars o lies k5 ct (w :: r) g) :
    ∃ g', goG (putM 7 (eT w)) (seqM (dputM 6 (getM 7) (dget2V 5 (getM 7) (dgetV 6 (sliceM (getM 7) (pureM none) (partM (op1 negD (pureM (.int 1)))))))) nextM) g = .ok .next g' ∧ ToldI m d liars o lies k5 ct r g' := by
  obtain ⟨k6, ps, ls, s, rfl, hd, hp, ht, hz, hc, hv, hl⟩ := h.ex
  have hp' := hp
  unfold prefOk at hp'
  simp only [Bool.and_eq_true] at hp'
  have hin : ini w ∈ ps.map (·.1) := by simpa using hp'.1.1
  have hnew : look ps w = none := look_none.mpr (by simpa using hp'.1.2)
  have hini : valD k6 (kT (ini w)) = some (.int (lookZ ps (ini w))) := by rw [hd (ini w), look_some hin]; rfl
  rw [List.length_cons] at hz
  have keys : ∀ v : Int, prefOk ((ps ++ [(w, v)]).map (·.1)) r = true := fun v => by
    rw [List.map_append]
    exact hp'.2
  have fr := prefOk_fresh (keys 0)
  by_cases hw : lyW liars w = true
  · rw [List.filter_cons_of_pos hw, List.length_cons] at hc
    cases ls with
    | nil => cases hc
    | cons v ls =>
      have hq : valD k5 (kT w) = (some v).map PyData.int := by
        rw [hv w List.mem_cons_self, List.filter_cons_of_pos hw, List.zip_cons_cons, look_cons, if_pos rfl]
      refine ⟨_, told_turn m d liars o lies k5 k6 s ct w (some v) _ (hl w List.mem_cons_self) hq hini (by omega), ⟨_, ps ++ [(w, v)], ls, _, rfl, hd.put w v hnew, keys v, ?_, ?_, ?_, fun u hu => ?_, fun u hu => hl u (List.mem_cons_of_mem _ hu)⟩⟩
      · rw [← ht]
        conv => rhs; unfold toldL
        rw [if_pos hw]
        rfl
      · have := len_put k6 (kT w) (.int ((some v).getD (lookZ ps (ini w))))
        omega
      · exact Nat.succ.inj hc
      · rw [hv u (List.mem_cons_of_mem _ hu), List.filter_cons_of_pos hw, List.zip_cons_cons, look_cons, if_neg]
        intro e
        exact fr u hu (by rw [← e]; simp)
  · have hwf : lyW liars w = false := by simpa using hw
    rw [List.filter_cons_of_neg hw] at hc
    have hq : valD k5 (kT w) = (none : Option Int).map PyData.int := by
      rw [hv w List.mem_cons_self, List.filter_cons_of_neg hw, look_none.mpr]
      intro z
      exact hw (List.mem_filter.mp (zip_keys _ _ w z)).2
    refine ⟨_, told_turn m d liars o lies k5 k6 s ct w none _ (hl w List.mem_cons_self) hq hini (by omega), ⟨_, ps ++ [(w, lookZ ps (ini w))], ls, _, rfl, hd.put w _ hnew, keys _, ?_, ?_, hc, fun u hu => ?_, fun u hu => hl u (List.mem_cons_of_mem _ hu)⟩⟩
    · rw [← ht]
      conv => rhs; unfold toldL
      rw [if_neg hw]
    · have := len_put k6 (kT w) (.int ((none : Option Int).getD (lookZ ps (ini w))))
      omega
    · rw [hv u (List.mem_cons_of_mem _ hu), List.filter_cons_of_neg hw]
theorem known_told_tells (ns : List Int) (m d : Int) (liars : List Int) (o : Int) (lies : List Int) (ct : Int) (h : Case m d) (hl : lies.length = (L m d liars).length) :
    ∃ kvs, DicOf kvs (A m d liars o lies) ∧ Tells h_known_told ns [.dat (.int m), .dat (.int d), .dat (eT liars), .dat (.int o), .dat (eT lies)] ct (dT kvs) ct := by
  obtain ⟨b1, b2, b3, b4⟩ := h.bounds
  have hcnt := W_count h
  have hcl : (L m d liars).length ≤ 100 := Nat.le_trans (List.length_filter_le _ _) hcnt
  generalize hk5 : ((L m d liars).zip lies).foldl (fun a (x : List Int × Int) => putD a (kT x.1) (.int x.2)) [] = k5
  have hd5 : DicOf k5 ((L m d liars).zip lies) := by
    have := DicOf.foldl (fun x : List Int × Int => x.1) (fun x => x.2) ((L m d liars).zip lies) [] [] DicOf.nil (by
      rw [List.map_nil, List.nil_append]
      have : ((L m d liars).zip lies).map (fun x => x.1) = L m d liars := List.map_fst_zip (by omega)
      rw [this]
      exact (W_nodup h).filter _)
    rw [hk5] at this
    simpa using this
  have h0 : ToldI m d liars o lies k5 ct (W m d) (St m d liars o lies k5 [(kT [0], .int o)] .no ct) :=
    ⟨_, [([0], o)], lies, _, rfl, DicOf.one [0] o, W_pref h, rfl, by simp; omega, by rw [hl]; rfl, fun w _ => hd5 w, fun w hw => by have := (W_len h w hw).1; omega⟩
  obtain ⟨g', hf, hI⟩ := forM_rel (k := putM 7) (body := (seqM (dputM 6 (getM 7) (dget2V 5 (getM 7) (dgetV 6 (sliceM (getM 7) (pureM none) (partM (op1 negD (pureM (.int 1)))))))) nextM)) (enc := eT) (ToldI m d liars o lies k5 ct) (fun w r g hI => told_step m d liars o lies k5 ct w r g hI) (W m d) _ h0
  obtain ⟨k6, ps, ls, s, rfl, hd, hp, ht, hz, hc, hv, hl2⟩ := hI.ex
  have hA : ps = A m d liars o lies := by
    rw [← ht]; rfl
  subst hA
  refine ⟨k6, hd, tells_fn (g := ⟨(St m d liars o lies k5 k6 s ct).sl.set 6 (.dat (dT k6)), ct⟩) rfl ?_⟩
  let S0 : Sg := ⟨[.dat (.int m), .dat (.int d), .dat (eT liars), .dat (.int o), .dat (eT lies), .no, .no, .no, .no], ct⟩
  let S1 : Sg := ⟨[.dat (.int m), .dat (.int d), .dat (eT liars), .dat (.int o), .dat (eT lies), .ownT k5, .no, .no, .no], ct⟩
  refine ev_next (g1 := S1) ?_ (ev_next (g1 := St m d liars o lies k5 [(kT [0], .int o)] .no ct) rfl (ev_next (ev_for (xs := (W m d).map eT) (g1 := St m d liars o lies k5 [(kT [0], .int o)] .no ct) ?_ hf) (ev_stop (ev_ret rfl) (fun z => nomatch z))))
  · refine ev_bind (a := k5) (g1 := S0) ?_ rfl
    rw [← hk5]
    refine dcT (g1 := S0) (fun x : List Int × Int => PyData.tuple [eT x.1, .int x.2]) (fun x => x.1) (fun x => x.2) ((L m d liars).zip lies) ?_ (fun x hx => ?_) (big (by rw [List.length_zip]; omega))
    · refine ev_bind (a := [.list ((L m d liars).map eT), eT lies]) (g1 := S0) (ev_bind (ev_call (g1 := S0) rfl (known_lying_tells ns m d liars ct h)) rfl) ?_
      show Res.ok (zipL ((L m d liars).map eT) (lies.map PyData.int)) S0 = _
      rw [zipD_map]
    · exact ⟨_, _, _, rfl, rfl, rfl, rfl⟩
  · exact ev_bind (ev_call (g1 := St m d liars o lies k5 [(kT [0], .int o)] .no ct) rfl (known_words_tells ns m d ct (by omega) b2 (by omega) b4)) rfl
end K68

set_option Elab.async false
set_option linter.all false
set_option maxRecDepth 100000
set_option maxHeartbeats 4000000
namespace K68
open PySem PySem.Spec L2 DL
theorem ints_map (w : List Int) : intsD (w.map PyData.int) = some w := by
  induction w with
  | nil => rfl
  | cons x r ih =>
    show (intsD (r.map PyData.int)).map (fun ns => x :: ns) = _
    rw [ih]
    rfl
def most (v : List Int) : Int := if (v.length : Int) < 2 * v.sum then 1 else 0
theorem most_tells (ns : List Int) (v : List Int) (ct : Int) : Tells h_most ns [.dat (.list (v.map PyData.int))] ct (.int (most v)) ct := by
  let S0 : Sg := ⟨[.dat (.list (v.map PyData.int))], ct⟩
  refine tells_fn (g := S0) rfl ?_
  have e1 : (opN sumD (consM (getM 0) (pureM []))) S0 = .ok (.int v.sum) S0 := by
    refine ev_opN (xs := [.list (v.map PyData.int)]) rfl ?_
    show (intsD (v.map PyData.int)).map (fun ns => PyData.int ns.sum) = _
    rw [ints_map]
    rfl
  have e2 : (opN lenD (consM (getM 0) (pureM []))) S0 = .ok (.int (v.length : Nat)) S0 := by
    refine ev_opN (xs := [.list (v.map PyData.int)]) rfl ?_
    show some (PyData.int ((v.map PyData.int).length : Nat)) = _
    rw [List.length_map]
  refine ev_stop (ev_ret (ev_opN (xs := [.bool (decide ((v.length : Int) < 2 * v.sum))]) (ev_bind (ev_op2 (ev_op2 (x := .int 2) rfl e1 (z := .int (2 * v.sum)) ?_) e2 rfl) rfl) ?_)) (fun z => nomatch z)
  · show (if (smallI 2 || smallI v.sum) = true then some (PyData.int (2 * v.sum)) else none) = _
    rfl
  · show some (PyData.int _) = _
    unfold most
    by_cases e : (v.length : Int) < 2 * v.sum
    · simp [e]
    · simp [e]
def setL (m : Int) (a : List (List Int × Int)) : Nat → List Int → Int → Int
  | 0, p, j => lookZ a (p ++ [j])
  | k + 1, p, j => most (lookZ a (p ++ [j]) :: ((rngI 0 m).filter fun x => !p.contains x && x != j).map fun x => setL m a k (p ++ [x]) j)
theorem settled_step (self : FnM) (ns : List Int) (m d : Int) (liars : List Int) (o : Int) (lies : List Int) (kvs : List (List Key × D)) (hk : DicOf kvs (A m d liars o lies)) (ct : Int) (h : Case m d) (k : Nat) (p : List Int) (j : Int) (hw : p ++ [j] ∈ W m d) (hlen : (p ++ [j]).length + k ≤ d.toNat + 2)
    (hs : ∀ k' : Nat, k = k' + 1 → ∀ x ∈ rngI 0 m, x ∉ p ++ [j] → Tells self ns [.dat (.int m), .dat (dT kvs), .dat (eT (p ++ [x])), .dat (.int j), .dat (.int (k' : Nat))] ct (.int (setL m (A m d liars o lies) k' (p ++ [x]) j)) ct) :
    Tells (fn 5 8 (m_settled self)) ns [.dat (.int m), .dat (dT kvs), .dat (eT p), .dat (.int j), .dat (.int (k : Nat))] ct (.int (setL m (A m d liars o lies) k p j)) ct := by
  obtain ⟨b1, b2, b3, b4⟩ := h.bounds
  have hw2 := W_len h _ hw
  have hpl : p.length ≤ 10 := by have := hw2.2; rw [List.length_append] at this; simp at this; omega
  let S0 : Sg := ⟨[.dat (.int m), .dat (dT kvs), .dat (eT p), .dat (.int j), .dat (.int (k : Nat)), .no, .no, .no], ct⟩
  let v := lookZ (A m d liars o lies) (p ++ [j])
  let S1 : Sg := ⟨[.dat (.int m), .dat (dT kvs), .dat (eT p), .dat (.int j), .dat (.int (k : Nat)), .dat (.int v), .no, .no], ct⟩
  have e1 : (asgM (op2 dgetD (getM 1) (op2 addD (getM 2) (tupM (consM (getM 3) (pureM []))))) (putM 5)) S0 = .ok .next S1 := by
    refine ev_asg (g1 := S0) (d := .int v) (ev_op2 (g1 := S0) (y := eT (p ++ [j])) rfl (ev_op2 (x := eT p) (y := eT [j]) rfl rfl (add_T (big (by simp; omega)))) (dgetD_dT hk _ _ (A_look hw))) rfl
  cases k with
  | zero =>
    refine tells_fn (g := S1) rfl ?_
    exact ev_next e1 (ev_stop (ev_ifT (g1 := S1) rfl (ev_stop (ev_ret rfl) (fun z => nomatch z))) (fun z => nomatch z))
  | succ k =>
    let xs := (rngI 0 m).filter fun x => !p.contains x && x != j
    let S2 : Sg := ⟨[.dat (.int m), .dat (dT kvs), .dat (eT p), .dat (.int j), .dat (.int ((k + 1 : Nat) : Int)), .dat (.int v), .dat (.list (xs.map PyData.int)), .no], ct⟩
    have hn : (((k + 1 : Nat) : Int) == 0) = false := by
      apply beq_false_of_ne
      omega
    refine tells_fn (g := S2) rfl ?_
    refine ev_next e1 (ev_next (g1 := S1) (ev_ifF (g1 := S1) ?_ rfl) (ev_next (g1 := S2) ?_ (ev_stop (ev_ret ?_) (fun z => nomatch z))))
    · refine ev_bind (a := .bool (((k + 1 : Nat) : Int) == 0)) (g1 := S1) rfl ?_
      rw [hn]
      rfl
    · refine ev_asg (g1 := S1) (d := .list (xs.map PyData.int)) (ev_bind (a := xs.map PyData.int) (g1 := S1) ?_ rfl) rfl
      refine lcT (g1 := S1) PyData.int (rngI 0 m) (fun x => !p.contains x && x != j) PyData.int ?_ (fun x hx => ?_) (big (by rw [len_rngI]; omega))
      · refine ev_bind (a := [.int m]) (g1 := S1) rfl ?_
        rw [rng1_i m (by omega) (by omega)]
        rfl
      · let S3 : Sg := ⟨[.dat (.int m), .dat (dT kvs), .dat (eT p), .dat (.int j), .dat (.int ((k + 1 : Nat) : Int)), .dat (.int v), .no, .dat (.int x)], ct⟩
        refine ⟨S3, S3, rfl, ?_, fun _ => rfl, fun _ => ⟨S3, rfl, rfl⟩⟩
        refine ev_bind (a := !p.contains x) (g1 := S3) (ev_bind (ev_op2 (g2 := S3) rfl rfl (in_T true x p)) (by rw [Bool.true_bne]; rfl)) ?_
        cases hc : !p.contains x
        · rfl
        · show Res.ok (!(x == j)) S3 = _
          rfl
    · have hargs : ∀ x ∈ xs, x ∈ rngI 0 m ∧ x ∉ p ++ [j] := fun x hx => by
        have h1 := List.mem_filter.mp hx
        refine ⟨h1.1, ?_⟩
        have h2 := h1.2
        simp at h2
        simp [h2]
      have e3 : (lcM (srcM (getM 6)) (putM 7) yesM (callM self ns (datsM (consM (getM 0) (consM (getM 1) (consM (tupM (starM (getM 2) (consM (getM 7) (pureM [])))) (consM (getM 3) (consM (op2 subD (getM 4) (pureM (.int 1))) (pureM [])))))))) [7]) S2 = .ok ((xs.map fun x => setL m (A m d liars o lies) k (p ++ [x]) j).map PyData.int) S2 := by
        rw [List.map_map]
        refine lcTm (g1 := S2) PyData.int xs (fun x => PyData.int (setL m (A m d liars o lies) k (p ++ [x]) j)) rfl (fun x hx => ?_) (big (Nat.le_trans (List.length_filter_le _ _) (by rw [len_rngI]; omega)))
        let S3 : Sg := ⟨[.dat (.int m), .dat (dT kvs), .dat (eT p), .dat (.int j), .dat (.int ((k + 1 : Nat) : Int)), .dat (.int v), .dat (.list (xs.map PyData.int)), .dat (.int x)], ct⟩
        refine ⟨S3, S3, rfl, ev_call (g1 := S3) (ss := [.dat (.int m), .dat (dT kvs), .dat (eT (p ++ [x])), .dat (.int j), .dat (.int (k : Nat))]) ?_ (hs k rfl x (hargs x hx).1 (hargs x hx).2), rfl⟩
        have et : (tupM (starM (getM 2) (consM (getM 7) (pureM [])))) S3 = .ok (eT (p ++ [x])) S3 := by
          refine ev_bind (ev_bind (g1 := S3) rfl (ev_bind (a := p.map PyData.int) (g1 := S3) rfl (ev_bind (a := [.int x]) (g1 := S3) rfl rfl))) ?_
          rw [if_pos (by rw [List.length_append, List.length_map]; exact big (by simp; omega))]
          show Res.ok (PyData.tuple _) _ = Res.ok (PyData.tuple _) _
          rw [List.map_append]
          rfl
        refine ev_dats (ds := [.int m, dT kvs, eT (p ++ [x]), .int j, .int (k : Nat)]) (ev_cons (g1 := S3) rfl (ev_cons (g1 := S3) rfl (ev_cons et (ev_cons (g1 := S3) rfl (ev_cons (g1 := S3) ?_ rfl)))))
        show Res.ok (PyData.int (((k + 1 : Nat) : Int) - 1)) S3 = _
        rw [show ((k + 1 : Nat) : Int) - 1 = (k : Nat) by omega]
      refine ev_call (g1 := S2) (ss := [.dat (.list ((v :: xs.map fun x => setL m (A m d liars o lies) k (p ++ [x]) j).map PyData.int))]) ?_ (most_tells ns _ ct)
      refine ev_dats (ds := [.list ((v :: xs.map fun x => setL m (A m d liars o lies) k (p ++ [x]) j).map PyData.int)]) (ev_cons (g1 := S2) (ev_lst (ev_guard (ev_cons (g1 := S2) rfl ?_) ?_)) rfl)
      · have := ev_star (g2 := S2) (r := pureM []) (ev_lst e3) rfl rfl
        rw [List.append_nil] at this
        exact this
      · rw [List.length_map, List.length_cons, List.length_map]
        have : xs.length ≤ 5 := Nat.le_trans (List.length_filter_le _ _) (by rw [len_rngI]; omega)
        exact big (by omega)
theorem settled_tells (ns : List Int) (m d : Int) (liars : List Int) (o : Int) (lies : List Int) (kvs : List (List Key × D)) (hk : DicOf kvs (A m d liars o lies)) (ct : Int) (h : Case m d) :
    ∀ (i k : Nat) (p : List Int) (j : Int), k ≤ i → p ++ [j] ∈ W m d → (p ++ [j]).length + k ≤ d.toNat + 2 → Tells (hr_settled (i + 1)) ns [.dat (.int m), .dat (dT kvs), .dat (eT p), .dat (.int j), .dat (.int (k : Nat))] ct (.int (setL m (A m d liars o lies) k p j)) ct := by
  intro i
  induction i with
  | zero =>
    intro k p j hi hw hlen
    exact settled_step _ ns m d liars o lies kvs hk ct h k p j hw hlen (fun k' e => by omega)
  | succ i ih =>
    intro k p j hi hw hlen
    refine settled_step _ ns m d liars o lies kvs hk ct h k p j hw hlen (fun k' e x hx hx2 => ih k' (p ++ [x]) j (by omega) ?_ ?_)
    · have := W_child h _ hw (by omega) x hx hx2
      rw [ini_app, lst_app] at this
      exact this
    · rw [List.length_append, List.length_append]
      rw [List.length_append] at hlen
      simp at hlen ⊢
      omega
end K68

set_option Elab.async false
set_option linter.all false
set_option maxRecDepth 100000
set_option maxHeartbeats 4000000
namespace K68
open PySem PySem.Spec L2 DL
def decL (m d : Int) (liars : List Int) (o : Int) (lies : List Int) : List Int := o :: (rngI 1 m).map fun j => setL m (A m d liars o lies) d.toNat [0] j
theorem known_decided_tells (ns : List Int) (m d : Int) (liars : List Int) (o : Int) (lies : List Int) (ct : Int) (h : Case m d) (hl : lies.length = (L m d liars).length) :
    Tells h_known_decided ns [.dat (.int m), .dat (.int d), .dat (eT liars), .dat (.int o), .dat (eT lies)] ct (eT (decL m d liars o lies)) ct := by
  obtain ⟨b1, b2, b3, b4⟩ := h.bounds
  obtain ⟨kvs, hk, ht⟩ := known_told_tells ns m d liars o lies ct h hl
  let S0 : Sg := ⟨[.dat (.int m), .dat (.int d), .dat (eT liars), .dat (.int o), .dat (eT lies), .no, .no], ct⟩
  let S1 : Sg := ⟨[.dat (.int m), .dat (.int d), .dat (eT liars), .dat (.int o), .dat (eT lies), .dat (dT kvs), .no], ct⟩
  have hd : ((d.toNat : Nat) : Int) = d := by omega
  refine tells_fn (g := S1) rfl ?_
  refine ev_next (g1 := S1) (ev_asg (ev_call (g1 := S0) rfl ht) rfl) (ev_stop (ev_ret ?_) (fun z => nomatch z))
  have e3 : (lcM (srcA rng2 (consM (pureM (.int 1)) (consM (getM 0) (pureM [])))) (putM 6) yesM (callM h_settled ns (datsM (consM (getM 0) (consM (getM 5) (consM (tupM (consM (pureM (.int 0)) (pureM []))) (consM (getM 6) (consM (getM 1) (pureM [])))))))) [6]) S1 = .ok (((rngI 1 m).map fun j => setL m (A m d liars o lies) d.toNat [0] j).map PyData.int) S1 := by
    rw [List.map_map]
    refine lcTm (g1 := S1) PyData.int (rngI 1 m) (fun j => PyData.int (setL m (A m d liars o lies) d.toNat [0] j)) (ev_srcA (ds := [.int 1, .int m]) rfl (rng2_i 1 m (by omega) (by omega) (by omega) (by omega))) (fun x hx => ?_) (big (by rw [len_rngI]; omega))
    let S3 : Sg := ⟨[.dat (.int m), .dat (.int d), .dat (eT liars), .dat (.int o), .dat (eT lies), .dat (dT kvs), .dat (.int x)], ct⟩
    refine ⟨S3, S3, rfl, ev_call (g1 := S3) (ss := [.dat (.int m), .dat (dT kvs), .dat (eT [0]), .dat (.int x), .dat (.int d)]) ?_ ?_, rfl⟩
    · exact ev_dats (ds := [.int m, dT kvs, eT [0], .int x, .int d]) (ev_cons (g1 := S3) rfl (ev_cons (g1 := S3) rfl (ev_cons (g1 := S3) (ev_tup (ds := [.int 0]) rfl (by decide)) (ev_cons (g1 := S3) rfl (ev_cons (g1 := S3) rfl rfl)))))
    · have := settled_tells ns m d liars o lies kvs hk ct h 3 d.toNat [0] x (by omega) (W_first h x hx) (by simp; omega)
      rw [hd] at this
      exact this
  have := ev_star (g2 := S1) (r := pureM []) (ev_lst e3) rfl rfl
  rw [List.append_nil] at this
  exact ev_tup (ev_cons (g1 := S1) rfl this) (by unfold decL; rw [List.length_map, List.length_cons, List.length_map, len_rngI]; exact big (by omega))
end K68

set_option Elab.async false
set_option linter.all false
set_option maxRecDepth 100000
set_option maxHeartbeats 4000000
namespace K68
open PySem PySem.Spec L2 DL
def loyL (liars : List Int) (dec : List Int) : List Int := (dec.zipIdx.filter fun p => !liars.contains ((p.2 : Nat) : Int)).map (·.1)
def keptL (liars : List Int) (o : Int) (dec : List Int) : Bool := ((loyL liars dec).all fun x => x == (loyL liars dec).headD 0) && (liars.contains 0 || (loyL liars dec).all fun x => x == o)
theorem bls_map {α : Type} (xs : List α) (f : α → Bool) : blsD (xs.map fun x => PyData.bool (f x)) = some (xs.map f) := by
  induction xs with
  | nil => rfl
  | cons x r ih =>
    show (blsD (r.map fun x => PyData.bool (f x))).map (fun ns => f x :: ns) = _
    rw [ih]
    rfl
theorem all_bls {α : Type} (xs : List α) (f : α → Bool) : allD [.list (xs.map fun x => PyData.bool (f x))] = some (.bool (xs.all f)) := by
  show (blsD (xs.map fun x => PyData.bool (f x))).map (fun ns => PyData.bool (ns.all id)) = _
  rw [bls_map]
  show some (PyData.bool ((xs.map f).all id)) = _
  rw [List.all_map]
  rfl
theorem is_kept_tells (ns : List Int) (liars : List Int) (o : Int) (dec : List Int) (ct : Int) (hz : dec.length ≤ 1000) : Tells h_is_kept ns [.dat (eT liars), .dat (.int o), .dat (eT dec)] ct (.bool (keptL liars o dec)) ct := by
  let lo := loyL liars dec
  let S0 : Sg := ⟨[.dat (eT liars), .dat (.int o), .dat (eT dec), .no, .no, .no], ct⟩
  let S1 : Sg := ⟨[.dat (eT liars), .dat (.int o), .dat (eT dec), .dat (.list (lo.map PyData.int)), .no, .no], ct⟩
  have hl : lo.length ≤ 1000 := by
    show ((dec.zipIdx.filter _).map _).length ≤ _
    rw [List.length_map]
    exact Nat.le_trans (List.length_filter_le _ _) (by rw [List.length_zipIdx]; exact hz)
  refine tells_fn (g := S1) rfl ?_
  refine ev_next (g1 := S1) (ev_asg (g1 := S0) (d := .list (lo.map PyData.int)) (ev_lst (ds := lo.map PyData.int) ?_) rfl) (ev_stop (ev_ret ?_) (fun z => nomatch z))
  · have := lcT (src := srcA enumD (consM (getM 2) (pureM []))) (k := tupG 2 (gConsM (putM 4) (gConsM (putM 5) gNilM))) (c := asB (op2 (inD true) (getM 4) (getM 0))) (e := getM 5) (vs := [4, 5]) (g := S0) (g1 := S0) (fun p : Int × Nat => PyData.tuple [.int ((p.2 : Nat) : Int), .int p.1]) dec.zipIdx (fun p => !liars.contains ((p.2 : Nat) : Int)) (fun p => .int p.1) (ev_srcA (ds := [eT dec]) rfl (by
        show some (enumL (dec.map PyData.int)) = _
        unfold enumL
        rw [List.zipIdx_map, List.map_map]
        rfl)) (fun p hp => by
        let S3 : Sg := ⟨[.dat (eT liars), .dat (.int o), .dat (eT dec), .no, .dat (.int ((p.2 : Nat) : Int)), .dat (.int p.1)], ct⟩
        refine ⟨S3, S3, rfl, ev_asB (ev_op2 (g2 := S3) rfl rfl ((in_T true _ liars).trans (by rw [Bool.true_bne]))), fun _ => rfl, fun _ => ⟨S3, rfl, rfl⟩⟩) (by rw [List.length_zipIdx]; exact big (by omega))
    refine this.trans ?_
    show Res.ok _ S0 = Res.ok _ S0
    congr 1
    show _ = (loyL liars dec).map PyData.int
    unfold loyL
    rw [List.map_map]
    rfl
  · have e1 : (opN allD (consM (lstM (lcM (srcM (getM 3)) (putM 5) yesM (op2 eqD (getM 5) (op2 ixD (getM 3) (pureM (.int 0)))) [5])) (pureM []))) S1 = .ok (.bool (lo.all fun x => x == lo.headD 0)) S1 := by
      refine ev_opN (ev_cons (g1 := S1) (d := .list (lo.map fun x => PyData.bool (x == lo.headD 0))) (ev_lst ?_) rfl) (all_bls lo _)
      refine lcTm (g1 := S1) PyData.int lo (fun x => PyData.bool (x == lo.headD 0)) rfl (fun x hx => ?_) (big (by omega))
      let S3 : Sg := ⟨[.dat (eT liars), .dat (.int o), .dat (eT dec), .dat (.list (lo.map PyData.int)), .no, .dat (.int x)], ct⟩
      refine ⟨S3, S3, rfl, ev_op2 (g2 := S3) (x := .int x) (y := .int (lo.headD 0)) rfl (ev_op2 (x := .list (lo.map PyData.int)) (y := .int 0) (g2 := S3) rfl rfl ?_) rfl, rfl⟩
      cases hlo : lo with
      | nil => rw [hlo] at hx; cases hx
      | cons y r => exact L2.atI_nat (j := 0) rfl
    have e2 : (opN allD (consM (lstM (lcM (srcM (getM 3)) (putM 5) yesM (op2 eqD (getM 5) (getM 1)) [5])) (pureM []))) S1 = .ok (.bool (lo.all fun x => x == o)) S1 := by
      refine ev_opN (ev_cons (g1 := S1) (d := .list (lo.map fun x => PyData.bool (x == o))) (ev_lst ?_) rfl) (all_bls lo _)
      refine lcTm (g1 := S1) PyData.int lo (fun x => PyData.bool (x == o)) rfl (fun x hx => ?_) (big (by omega))
      let S3 : Sg := ⟨[.dat (eT liars), .dat (.int o), .dat (eT dec), .dat (.list (lo.map PyData.int)), .no, .dat (.int x)], ct⟩
      exact ⟨S3, S3, rfl, rfl, rfl⟩
    have e3 : (op2 (inD false) (pureM (.int 0)) (getM 0)) S1 = .ok (.bool (liars.contains 0)) S1 := ev_op2 (g2 := S1) rfl rfl ((in_T false 0 liars).trans (by rw [Bool.false_bne]))
    refine ev_bind e1 ?_
    show _ = Res.ok (PyData.bool ((lo.all fun x => x == lo.headD 0) && (liars.contains 0 || lo.all fun x => x == o))) S1
    cases lo.all fun x => x == lo.headD 0 with
    | false => rfl
    | true =>
      refine ev_bind e3 ?_
      cases liars.contains 0 with
      | true => rfl
      | false => exact e2
end K68

set_option Elab.async false
set_option linter.all false
set_option maxRecDepth 100000
set_option maxHeartbeats 4000000
namespace K68
open PySem PySem.Spec L2 DL
def nextB (ws : List (List Int)) : List (List Int) := ws.flatMap fun w => ([0, 1] : List Int).map fun x => w ++ [x]
def lies : Nat → List (List Int)
  | 0 => [[]]
  | n + 1 => nextB (lies n)
theorem lies_len (n : Nat) : (lies n).length = 2 ^ n := by
  induction n with
  | zero => rfl
  | succ n ih =>
    have : ∀ ws : List (List Int), (nextB ws).length = ws.length * 2 := by
      intro ws
      induction ws with
      | nil => rfl
      | cons w r ih =>
        show ((([0, 1] : List Int).map fun x => w ++ [x]) ++ nextB r).length = _
        rw [List.length_append, ih, List.length_cons]
        simp
        omega
    show (nextB (lies n)).length = _
    rw [this, ih, Nat.pow_succ]
theorem lies_word (n : Nat) : ∀ w ∈ lies n, w.length = n := by
  induction n with
  | zero => intro w hw; obtain rfl := List.mem_singleton.mp hw; rfl
  | succ n ih =>
    intro w hw
    obtain ⟨u, hu, hw⟩ := List.mem_flatMap.mp hw
    obtain ⟨x, _, rfl⟩ := List.mem_map.mp hw
    rw [List.length_append, ih u hu]
    rfl
structure Lst where
  a : List (List Int)
  s : Slot
def stepB (w : Lst) (k : Int) : Lst := ⟨nextB w.a, .dat (.int k)⟩
def Sb (n ct : Int) (w : Lst) : Sg := ⟨[.dat (.int n), .dat (.list (w.a.map eT)), w.s, .no, .no], ct⟩
theorem lies_turn (n ct : Int) (k : Int) (w : Lst) (h1 : w.a.length ≤ 10000) (h2 : ∀ u ∈ w.a, u.length ≤ 1000) :
    goG (putM 2 (.int k)) (seqM (asgM (lstM (lc2M (srcM (getM 1)) (putM 3) yesM (srcM (tupM (consM (pureM (.int 0)) (consM (pureM (.int 1)) (pureM []))))) (putM 4) yesM (tupM (starM (getM 3) (consM (getM 4) (pureM [])))) [3, 4] [4])) (putM 1))
  nextM) (Sb n ct w) = .ok .next (Sb n ct (stepB w k)) := by
  show (seqM _ _) (Sb n ct ⟨w.a, .dat (.int k)⟩) = _
  refine ev_next (ev_asg (g1 := Sb n ct ⟨w.a, .dat (.int k)⟩) (d := .list ((nextB w.a).map eT)) (ev_lst ?_) rfl) rfl
  have := lc2T (src := srcM (getM 1)) (k := putM 3) (src1 := srcM (tupM (consM (pureM (.int 0)) (consM (pureM (.int 1)) (pureM []))))) (k1 := putM 4) (c1 := yesM) (e := tupM (starM (getM 3) (consM (getM 4) (pureM [])))) (vs := [3, 4]) (vs1 := [4]) (g := Sb n ct ⟨w.a, .dat (.int k)⟩) (g1 := Sb n ct ⟨w.a, .dat (.int k)⟩)
      eT PyData.int w.a (fun _ => [0, 1]) (fun _ _ => true) (fun u x => eT (u ++ [x])) rfl (fun u hu => by
        let S3 : Sg := ⟨[.dat (.int n), .dat (.list (w.a.map eT)), .dat (.int k), .dat (eT u), .no], ct⟩
        refine ⟨S3, S3, rfl, ev_bind (ev_tup (ds := [.int 0, .int 1]) (g1 := S3) rfl (by decide)) rfl, rfl, fun x hx => ?_⟩
        let S4 : Sg := ⟨[.dat (.int n), .dat (.list (w.a.map eT)), .dat (.int k), .dat (eT u), .dat (.int x)], ct⟩
        refine ⟨S4, S4, rfl, rfl, (by intro z; cases z), fun _ => ⟨S4, ?_, rfl⟩⟩
        have e1 := ev_star (f := getM 3) (r := consM (getM 4) (pureM [])) (g := S4) (g1 := S4) (g2 := S4) (d := eT u) (ds := [.int x]) rfl rfl rfl
        have e2 : u.map PyData.int ++ [PyData.int x] = (u ++ [x]).map PyData.int := by rw [List.map_append]; rfl
        rw [e2] at e1
        exact ev_tup e1 (by rw [List.length_map, List.length_append]; exact big (by have := h2 u hu; simp; omega))) (by rw [sum_const]; exact big (Nat.le_trans (Nat.mul_le_mul h1 (Nat.le_refl 2)) (by decide)))
  refine this.trans ?_
  show Res.ok _ _ = Res.ok _ _
  congr 1
  unfold nextB
  rw [List.map_flatMap]
  congr 1
theorem all_lies_tells (ns : List Int) (n : Nat) (ct : Int) (hn : n ≤ 10) : Tells h_all_lies ns [.dat (.int (n : Nat))] ct (.list ((lies n).map eT)) ct := by
  obtain ⟨g', hf, i, s, hg, hi⟩ := forM_rel (k := putM 2) (body := (seqM (asgM (lstM (lc2M (srcM (getM 1)) (putM 3) yesM (srcM (tupM (consM (pureM (.int 0)) (consM (pureM (.int 1)) (pureM []))))) (putM 4) yesM (tupM (starM (getM 3) (consM (getM 4) (pureM [])))) [3, 4] [4])) (putM 1)) nextM)) (enc := PyData.int)
    (fun r g => ∃ (i : Nat) (s : Slot), g = Sb n ct ⟨lies i, s⟩ ∧ i + r.length = n) (fun x r g hI => by
      obtain ⟨i, s, rfl, hi⟩ := hI
      rw [List.length_cons] at hi
      refine ⟨_, lies_turn n ct x ⟨lies i, s⟩ ?_ (fun u hu => by rw [lies_word i u hu]; omega), i + 1, _, rfl, by omega⟩
      show (lies i).length ≤ _
      rw [lies_len]
      have : 2 ^ i ≤ 2 ^ 10 := Nat.pow_le_pow_right (by decide) (by omega)
      omega) (rngI 0 (n : Nat)) (Sb n ct ⟨lies 0, .no⟩) ⟨0, .no, rfl, by rw [len_rngI]; omega⟩
  obtain rfl : i = n := by simpa using hi
  refine tells_fn (g := g') rfl ?_ |> fun z => by rw [hg] at z; exact z
  let S0 : Sg := ⟨[.dat (.int (i : Nat)), .no, .no, .no, .no], ct⟩
  refine ev_next (g1 := Sb i ct ⟨lies 0, .no⟩) rfl (ev_next (g1 := g') (ev_for (g1 := Sb i ct ⟨lies 0, .no⟩) (ev_srcA (ds := [.int (i : Nat)]) rfl (rng1_i i (by omega) (by omega))) hf) (ev_stop ?_ (fun z => nomatch z)))
  rw [hg]
  exact ev_ret rfl
end K68

set_option Elab.async false
set_option linter.all false
set_option maxRecDepth 100000
set_option maxHeartbeats 4000000
namespace K68
open PySem PySem.Spec L2 DL
theorem ev_go {β : Type} {k : M Unit} {f : M β} {g g1 : Sg} {r : Res β} (h : k g = .ok () g1) (h2 : f g1 = r) : goG k f g = r := by
  unfold goG
  rw [h]
  exact h2
def toFl : Option D → Fl
  | some d => .ret d
  | none => .next
theorem forM_find {α : Type} {k : D → M Unit} {body : M Fl} {enc : α → D} (r : α → Option D) (I : Sg → Prop) : ∀ (xs : List α), (∀ x ∈ xs, ∀ g, I g → ∃ g', goG (k (enc x)) body g = .ok (toFl (r x)) g' ∧ I g') → ∀ g, I g → ∃ g', forM (xs.map enc) k body g = .ok (toFl (xs.findSome? r)) g' ∧ I g'
  | [], _, g, h => ⟨g, rfl, h⟩
  | x :: xs, step, g, h => by
    obtain ⟨g', e, z⟩ := step x List.mem_cons_self g h
    have e2 : forM ((x :: xs).map enc) k body g = (goG (k (enc x)) body g).bind fun f => match f with
      | .next => forM (xs.map enc) k body
      | .cont => forM (xs.map enc) k body
      | .brk => nextM
      | .ret d => pureM (.ret d) := by
      show goG (k (enc x)) (bindM body _) g = _
      unfold goG
      cases k (enc x) g <;> rfl
    rw [e2, e, List.findSome?_cons]
    cases r x with
    | some d => exact ⟨g', rfl, z⟩
    | none => exact forM_find r I xs (fun y hy => step y (List.mem_cons_of_mem _ hy)) g' z
def eR (p : Int × List Int) : D := .tuple [.int p.1, eT p.2]
def eO : Option (Int × List Int) → D
  | some p => eR p
  | none => .none
def badL (m d : Int) (liars : List Int) (o : Int) (l : List Int) : Option (Int × List Int) := if keptL liars o (decL m d liars o l) = true then none else some (o, l)
def nL (m d : Int) (liars : List Int) : Nat := (L m d liars).length
def findL (m d : Int) (liars : List Int) : Option (Int × List Int) := ([0, 1] : List Int).findSome? fun o => (lies (nL m d liars)).findSome? fun l => badL m d liars o l
theorem findSome_map {α β γ : Type} (xs : List α) (r : α → Option β) (f : β → γ) : xs.findSome? (fun x => (r x).map f) = (xs.findSome? r).map f := by
  induction xs with
  | nil => rfl
  | cons x t ih =>
    rw [List.findSome?_cons, List.findSome?_cons]
    cases r x with
    | some b => rfl
    | none => exact ih
theorem raises_fn {n N : Nat} {m : List Int → M Fl} {ns : List Int} {ss : List Slot} {ct ct' : Int} {nm : Str} (hl : ss.length = n) (h : m ns ⟨ss ++ List.replicate (N - ss.length) .no, ct⟩ = .exc nm ct') : fn n N m ns ss ct = .exc nm ct' := by
  unfold fn
  rw [if_pos hl]
  unfold runF
  rw [h]
theorem found_large (ns : List Int) (m d : Int) (liars : List Int) (ct : Int) (h : Case m d) (hn : 10 < nL m d liars) : h_found_lies ns [.dat (.int m), .dat (.int d), .dat (eT liars)] ct = .exc "TooLarge" ct := by
  obtain ⟨b1, b2, b3, b4⟩ := h.bounds
  let S0 : Sg := ⟨[.dat (.int m), .dat (.int d), .dat (eT liars), .no, .no, .no], ct⟩
  let S1 : Sg := ⟨[.dat (.int m), .dat (.int d), .dat (eT liars), .dat (.int (nL m d liars : Nat)), .no, .no], ct⟩
  have e1 : (asgM (opN lenD (consM (callM h_known_lying ns (datsM (consM (getM 0) (consM (getM 1) (consM (getM 2) (pureM [])))))) (pureM []))) (putM 3)) S0 = .ok .next S1 := by
    refine ev_asg (d := .int (nL m d liars : Nat)) (ev_opN (xs := [.list ((L m d liars).map eT)]) (ev_cons (ev_call (g1 := S0) rfl (known_lying_tells ns m d liars ct h)) rfl) ?_) rfl
    show some (PyData.int (((L m d liars).map eT).length : Nat)) = _
    rw [List.length_map]
    rfl
  have e2 : m_found_lies ns S0 = .exc "TooLarge" ct := by
    refine ev_next e1 (ev_exc (ev_ifT (g1 := S1) (ev_asB (ev_op2 (g2 := S1) (x := .int (nL m d liars : Nat)) (y := .int 10) (z := .bool true) rfl rfl ?_)) (ev_exc rfl)))
    show some (PyData.bool (decide ((10 : Int) < (nL m d liars : Nat)))) = _
    rw [decide_eq_true (by omega)]
  exact raises_fn rfl e2
theorem found_tells (ns : List Int) (m d : Int) (liars : List Int) (ct : Int) (h : Case m d) (hn : nL m d liars ≤ 10) : Tells h_found_lies ns [.dat (.int m), .dat (.int d), .dat (eT liars)] ct (eO (findL m d liars)) ct := by
  obtain ⟨b1, b2, b3, b4⟩ := h.bounds
  let n := nL m d liars
  let S (a b : Slot) : Sg := ⟨[.dat (.int m), .dat (.int d), .dat (eT liars), .dat (.int (n : Nat)), a, b], ct⟩
  let S0 : Sg := ⟨[.dat (.int m), .dat (.int d), .dat (eT liars), .no, .no, .no], ct⟩
  have e1 : (asgM (opN lenD (consM (callM h_known_lying ns (datsM (consM (getM 0) (consM (getM 1) (consM (getM 2) (pureM [])))))) (pureM []))) (putM 3)) S0 = .ok .next (S .no .no) := by
    refine ev_asg (d := .int (n : Nat)) (ev_opN (xs := [.list ((L m d liars).map eT)]) (ev_cons (ev_call (g1 := S0) rfl (known_lying_tells ns m d liars ct h)) rfl) ?_) rfl
    show some (PyData.int (((L m d liars).map eT).length : Nat)) = _
    rw [List.length_map]
    rfl
  have inner : ∀ (o : Int) (b : Slot), ∃ b', (forS (srcM (callM h_all_lies ns (datsM (consM (getM 3) (pureM []))))) (putM 5)
  (seqM (ifM (notM (asB (callM h_is_kept ns (datsM (consM (getM 2) (consM (getM 4) (consM (callM h_known_decided ns (datsM (consM (getM 0) (consM (getM 1) (consM (getM 2) (consM (getM 4) (consM (getM 5) (pureM [])))))))) (pureM []))))))))
  (seqM (retM (tupM (consM (getM 4) (consM (getM 5) (pureM [])))))
  nextM)
  nextM)
  nextM)) (S (.dat (.int o)) b) = .ok (toFl (((lies n).findSome? fun l => badL m d liars o l).map eR)) (S (.dat (.int o)) b') := by
    intro o b
    obtain ⟨g', hf, b', hg⟩ := forM_find (k := putM 5) (body := (seqM (ifM (notM (asB (callM h_is_kept ns (datsM (consM (getM 2) (consM (getM 4) (consM (callM h_known_decided ns (datsM (consM (getM 0) (consM (getM 1) (consM (getM 2) (consM (getM 4) (consM (getM 5) (pureM [])))))))) (pureM []))))))))
  (seqM (retM (tupM (consM (getM 4) (consM (getM 5) (pureM [])))))
  nextM)
  nextM)
  nextM)) (enc := eT) (fun l => (badL m d liars o l).map eR) (fun g => ∃ b', g = S (.dat (.int o)) b') (lies n) (fun l hl g hg => by
        obtain ⟨b', rfl⟩ := hg
        refine ⟨S (.dat (.int o)) (.dat (eT l)), ?_, _, rfl⟩
        show (seqM _ _) (S (.dat (.int o)) (.dat (eT l))) = _
        have hdl : (decL m d liars o l).length ≤ 1000 := by unfold decL; rw [List.length_cons, List.length_map, len_rngI]; omega
        have ec : (notM (asB (callM h_is_kept ns (datsM (consM (getM 2) (consM (getM 4) (consM (callM h_known_decided ns (datsM (consM (getM 0) (consM (getM 1) (consM (getM 2) (consM (getM 4) (consM (getM 5) (pureM [])))))))) (pureM [])))))))) (S (.dat (.int o)) (.dat (eT l))) = .ok (!keptL liars o (decL m d liars o l)) (S (.dat (.int o)) (.dat (eT l))) := by
          refine ev_bind (ev_asB (ev_call (g1 := S (.dat (.int o)) (.dat (eT l))) (ss := [.dat (eT liars), .dat (.int o), .dat (eT (decL m d liars o l))]) (ev_dats (ds := [eT liars, .int o, eT (decL m d liars o l)]) (ev_cons (g1 := S (.dat (.int o)) (.dat (eT l))) rfl (ev_cons (g1 := S (.dat (.int o)) (.dat (eT l))) rfl (ev_cons (ev_call (g1 := S (.dat (.int o)) (.dat (eT l))) rfl (known_decided_tells ns m d liars o l ct h (lies_word n l hl))) rfl)))) (is_kept_tells ns liars o _ ct hdl))) rfl
        unfold badL
        cases hkp : keptL liars o (decL m d liars o l) with
        | true =>
          rw [hkp] at ec
          exact ev_next (ev_ifF ec rfl) rfl
        | false =>
          rw [hkp] at ec
          exact ev_stop (ev_ifT ec (ev_stop (ev_ret (ev_tup (ds := [.int o, eT l]) rfl (big (n := 2) (by decide)))) (fun z => nomatch z))) (fun z => nomatch z)) (S (.dat (.int o)) b) ⟨b, rfl⟩
    refine ⟨b', ev_for (xs := (lies n).map eT) (g1 := S (.dat (.int o)) b) (ev_bind (ev_call (g1 := S (.dat (.int o)) b) rfl (all_lies_tells ns n ct hn)) rfl) ?_⟩
    rw [hf, hg, findSome_map]
  obtain ⟨g', hf, a', b', hg⟩ := forM_find (k := putM 4) (body := (seqM (forS (srcM (callM h_all_lies ns (datsM (consM (getM 3) (pureM []))))) (putM 5)
  (seqM (ifM (notM (asB (callM h_is_kept ns (datsM (consM (getM 2) (consM (getM 4) (consM (callM h_known_decided ns (datsM (consM (getM 0) (consM (getM 1) (consM (getM 2) (consM (getM 4) (consM (getM 5) (pureM [])))))))) (pureM []))))))))
  (seqM (retM (tupM (consM (getM 4) (consM (getM 5) (pureM [])))))
  nextM)
  nextM)
  nextM))
  nextM)) (enc := PyData.int) (fun o => ((lies n).findSome? fun l => badL m d liars o l).map eR) (fun g => ∃ a b, g = S a b) [0, 1] (fun o _ g hg => by
    obtain ⟨a, b, rfl⟩ := hg
    obtain ⟨b', hb⟩ := inner o b
    refine ⟨S (.dat (.int o)) b', ?_, _, _, rfl⟩
    refine ev_go (g1 := S (.dat (.int o)) b) rfl ?_
    cases hq : (lies n).findSome? fun l => badL m d liars o l with
    | none => rw [hq] at hb; exact ev_next hb rfl
    | some p => rw [hq] at hb; exact ev_stop hb (fun z => nomatch z)) (S .no .no) ⟨_, _, rfl⟩
  rw [findSome_map] at hf
  have e2 : (ifM (asB (op2 gtD (getM 3) (pureM (.int 10)))) (seqM (raiseM "TooLarge") nextM) nextM) (S .no .no) = .ok .next (S .no .no) := by
    refine ev_ifF (ev_asB (ev_op2 (g2 := S .no .no) (x := .int (n : Nat)) (y := .int 10) (z := .bool false) rfl rfl ?_)) rfl
    show some (PyData.bool (decide ((10 : Int) < (n : Nat)))) = _
    rw [decide_eq_false (by omega)]
  refine tells_fn (g := g') rfl ?_ |> fun z => by rw [hg] at z; exact z
  refine ev_next e1 (ev_next e2 ?_)
  have e3 : (forS (srcM (tupM (consM (pureM (.int 0)) (consM (pureM (.int 1)) (pureM []))))) (putM 4) _) (S .no .no) = _ := ev_for (xs := ([0, 1] : List Int).map PyData.int) (g1 := S .no .no) (ev_bind (ev_tup (ds := [.int 0, .int 1]) (g1 := S .no .no) rfl (by decide)) rfl) hf
  cases hq : findL m d liars with
  | none =>
    unfold findL at hq
    rw [hq] at e3
    exact ev_next e3 (ev_stop (ev_ret rfl) (fun z => nomatch z))
  | some p =>
    unfold findL at hq
    rw [hq] at e3
    exact ev_stop e3 (fun z => nomatch z)
end K68

set_option Elab.async false
set_option linter.all false
set_option maxRecDepth 100000
set_option maxHeartbeats 4000000
namespace K68
open PySem PySem.Spec L2 DL
/-- what check_case asks of the liars -/
def okLiars (m : Int) (l : List Int) : Bool := (l.all fun x => decide (0 ≤ x ∧ x < m)) && ((l.zip l.tail).all fun p => decide (p.1 < p.2))
theorem cut_tail (xs : List D) : cutL xs (some 1) none = xs.tail := by
  unfold cutL
  have h1 : HT.sIx xs.length 0 (some 1) = min 1 xs.length := HT.sIx_nat _ _ 1
  have h2 : HT.sIx xs.length xs.length none = xs.length := rfl
  rw [h1, h2]
  cases xs with
  | nil => rfl
  | cons x r =>
    rw [show min 1 (x :: r).length = 1 by simp]
    show r.take ((r.length + 1) - 1) = r
    simp
theorem check_tells (ns : List Int) (m d : Int) (l : List Int) (ct : Int) (h : Case m d) (hl : okLiars m l = true) (hz : l.length ≤ 1000) : Tells h_check_case ns [.dat (.int m), .dat (.int d), .dat (eT l)] ct .none ct := by
  obtain ⟨b1, b2, b3, b4⟩ := h.bounds
  unfold okLiars at hl
  rw [Bool.and_eq_true] at hl
  let S0 : Sg := ⟨[.dat (.int m), .dat (.int d), .dat (eT l), .no, .no], ct⟩
  refine tells_fn (g := S0) rfl ?_
  have c1 : (orM (asB (op2 gtD (getM 0) (pureM (.int 5)))) (asB (op2 gtD (getM 1) (pureM (.int 2))))) S0 = .ok false S0 := by
    refine ev_bind (a := false) (g1 := S0) (ev_asB (ev_op2 (g2 := S0) (x := .int m) (y := .int 5) rfl rfl ?_)) (ev_asB (ev_op2 (g2 := S0) (x := .int d) (y := .int 2) rfl rfl ?_))
    · show some (PyData.bool (decide ((5 : Int) < m))) = _
      rw [decide_eq_false (by omega)]
    · show some (PyData.bool (decide ((2 : Int) < d))) = _
      rw [decide_eq_false (by omega)]
  have c2 : (orM (asB (op2 ltD (getM 0) (pureM (.int 1)))) (asB (op2 ltD (getM 1) (pureM (.int 0))))) S0 = .ok false S0 := by
    refine ev_bind (a := false) (g1 := S0) (ev_asB (ev_op2 (g2 := S0) (x := .int m) (y := .int 1) rfl rfl ?_)) (ev_asB (ev_op2 (g2 := S0) (x := .int d) (y := .int 0) rfl rfl ?_))
    · show some (PyData.bool (decide (m < 1))) = _
      rw [decide_eq_false (by omega)]
    · show some (PyData.bool (decide (d < 0))) = _
      rw [decide_eq_false (by omega)]
  have c3 : (opN allD (consM (lstM (lcM (srcM (getM 2)) (putM 3) yesM (chainM leD ltD (pureM (.int 0)) (getM 3) (getM 0)) [3])) (pureM []))) S0 = .ok (.bool true) S0 := by
    refine ev_opN (ev_cons (g1 := S0) (d := .list (l.map fun x => PyData.bool (decide (0 ≤ x ∧ x < m)))) (ev_lst ?_) rfl) ((all_bls l _).trans (by rw [hl.1]))
    refine lcTm (g1 := S0) PyData.int l (fun x => PyData.bool (decide (0 ≤ x ∧ x < m))) rfl (fun x hx => ?_) (big (by omega))
    let S3 : Sg := ⟨[.dat (.int m), .dat (.int d), .dat (eT l), .dat (.int x), .no], ct⟩
    refine ⟨S3, S3, rfl, ?_, rfl⟩
    refine ev_bind (g1 := S3) rfl (ev_bind (a := .int x) (g1 := S3) rfl ?_)
    show (bindM (liftO (some (PyData.bool (decide ((0 : Int) ≤ x))))) _) S3 = _
    by_cases h0 : (0 : Int) ≤ x
    · rw [decide_eq_true h0]
      by_cases h1 : x < m
      · rw [decide_eq_true (⟨h0, h1⟩ : 0 ≤ x ∧ x < m)]
        show Res.ok (PyData.bool (decide (x < m))) S3 = _
        rw [decide_eq_true h1]
      · rw [decide_eq_false (fun z => h1 z.2 : ¬ (0 ≤ x ∧ x < m))]
        show Res.ok (PyData.bool (decide (x < m))) S3 = _
        rw [decide_eq_false h1]
    · rw [decide_eq_false h0, decide_eq_false (fun z => h0 z.1 : ¬ (0 ≤ x ∧ x < m))]
      rfl
  have c4 : (opN allD (consM (lstM (lcM (srcA zipD (consM (getM 2) (consM (sliceM (getM 2) (partM (pureM (.int 1))) (pureM none)) (pureM [])))) (tupG 2 (gConsM (putM 3) (gConsM (putM 4) gNilM))) yesM (op2 ltD (getM 3) (getM 4)) [3, 4])) (pureM []))) S0 = .ok (.bool true) S0 := by
    refine ev_opN (ev_cons (g1 := S0) (d := .list ((l.zip l.tail).map fun p => PyData.bool (decide (p.1 < p.2)))) (ev_lst ?_) rfl) ((all_bls _ _).trans (by rw [hl.2]))
    refine lcTm (g1 := S0) (fun p : Int × Int => PyData.tuple [.int p.1, .int p.2]) (l.zip l.tail) (fun p => PyData.bool (decide (p.1 < p.2))) ?_ (fun p hp => ?_) (big (by rw [List.length_zip]; omega))
    · refine ev_srcA (ds := [eT l, eT l.tail]) (ev_cons (g1 := S0) rfl (ev_cons (g1 := S0) (ev_bind (a := eT l) (g1 := S0) rfl (ev_bind (a := some 1) (g1 := S0) rfl (ev_bind (a := none) (g1 := S0) rfl ?_))) rfl)) ?_
      · show Res.ok (PyData.tuple (cutL (l.map PyData.int) (some 1) none)) S0 = _
        rw [cut_tail, ← List.map_tail]
      · show some (zipL (l.map PyData.int) (l.tail.map PyData.int)) = _
        rw [zipD_map]
    · let S3 : Sg := ⟨[.dat (.int m), .dat (.int d), .dat (eT l), .dat (.int p.1), .dat (.int p.2)], ct⟩
      exact ⟨S3, S3, rfl, rfl, rfl⟩
  refine ev_next (ev_ifF c1 rfl) (ev_next (ev_ifF c2 rfl) (ev_next (ev_ifF (g1 := S0) (ev_bind (a := false) (g1 := S0) (ev_bind (ev_asB c3) rfl) (ev_bind (ev_asB c4) rfl)) rfl) (ev_stop (ev_ret rfl) (fun z => nomatch z))))
end K68

set_option Elab.async false
set_option linter.all false
set_option maxRecDepth 100000
set_option maxHeartbeats 4000000
namespace K68
open PySem PySem.Spec L2 DL
theorem ev_drop {α : Type} {f : M α} {a : α} {g g1 : Sg} (h : f g = .ok a g1) : dropM f g = .ok .next g1 := ev_bind h rfl
theorem ev_nextX {f k : M Fl} {g g1 : Sg} {n : Str} {ct : Int} (h : f g = .ok .next g1) (h2 : k g1 = .exc n ct) : seqM f k g = .exc n ct := ev_next h h2
theorem ev_retX {f : M D} {g : Sg} {n : Str} {ct : Int} (h : f g = .exc n ct) : retM f g = .exc n ct := by
  show (f g).bind _ = _
  rw [h]
  rfl
theorem ev_op2X {h : D → D → Option D} {f k : M D} {g : Sg} {n : Str} {ct : Int} (h1 : f g = .exc n ct) : op2 h f k g = .exc n ct := by
  show (f g).bind _ = _
  rw [h1]
  rfl
theorem ev_asgX {f : M D} {k : D → M Unit} {g : Sg} {n : Str} {ct : Int} (h : f g = .exc n ct) : asgM f k g = .exc n ct := by
  show (f g).bind _ = _
  rw [h]
  rfl
theorem isno_R (q : Option (Int × List Int)) (neg : Bool) : isND neg (eO q) .none = some (.bool (neg != q.isNone)) := by
  cases q <;> cases neg <;> rfl
theorem is_safe_tells (ns : List Int) (m d : Int) (l : List Int) (ct : Int) (h : Case m d) (hl : okLiars m l = true) (hz : l.length ≤ 1000) (hn : nL m d l ≤ 10) : Tells h_is_safe ns [.dat (.int m), .dat (.int d), .dat (eT l)] ct (.bool (findL m d l).isNone) ct := by
  let S0 : Sg := ⟨[.dat (.int m), .dat (.int d), .dat (eT l)], ct⟩
  refine tells_fn (g := S0) rfl ?_
  refine ev_next (ev_drop (ev_call (g1 := S0) rfl (check_tells ns m d l ct h hl hz))) (ev_stop (ev_ret (ev_op2 (ev_call (g1 := S0) rfl (found_tells ns m d l ct h hn)) rfl ((isno_R _ false).trans (by rw [Bool.false_bne])))) (fun z => nomatch z))
theorem is_safe_large (ns : List Int) (m d : Int) (l : List Int) (ct : Int) (h : Case m d) (hl : okLiars m l = true) (hz : l.length ≤ 1000) (hn : 10 < nL m d l) : h_is_safe ns [.dat (.int m), .dat (.int d), .dat (eT l)] ct = .exc "TooLarge" ct := by
  let S0 : Sg := ⟨[.dat (.int m), .dat (.int d), .dat (eT l)], ct⟩
  refine raises_fn rfl ?_
  exact ev_nextX (ev_drop (ev_call (g1 := S0) rfl (check_tells ns m d l ct h hl hz))) (ev_exc (ev_retX (ev_op2X (ev_callX (g1 := S0) rfl (found_large ns m d l ct h hn)))))
theorem first_large (ns : List Int) (m d : Int) (l : List Int) (ct : Int) (h : Case m d) (hl : okLiars m l = true) (hz : l.length ≤ 1000) (hn : 10 < nL m d l) : h_first_lies ns [.dat (.int m), .dat (.int d), .dat (eT l)] ct = .exc "TooLarge" ct := by
  let S0 : Sg := ⟨[.dat (.int m), .dat (.int d), .dat (eT l), .no], ct⟩
  refine raises_fn rfl ?_
  exact ev_nextX (ev_drop (ev_call (g1 := S0) rfl (check_tells ns m d l ct h hl hz))) (ev_exc (ev_asgX (ev_callX (g1 := S0) rfl (found_large ns m d l ct h hn))))
theorem first_none (ns : List Int) (m d : Int) (l : List Int) (ct : Int) (h : Case m d) (hl : okLiars m l = true) (hz : l.length ≤ 1000) (hn : nL m d l ≤ 10) (hf : findL m d l = none) : h_first_lies ns [.dat (.int m), .dat (.int d), .dat (eT l)] ct = .exc "Missing" ct := by
  let S0 : Sg := ⟨[.dat (.int m), .dat (.int d), .dat (eT l), .no], ct⟩
  let S1 : Sg := ⟨[.dat (.int m), .dat (.int d), .dat (eT l), .dat .none], ct⟩
  have e := found_tells ns m d l ct h hn
  rw [hf] at e
  refine raises_fn rfl ?_
  exact ev_nextX (ev_drop (ev_call (g1 := S0) rfl (check_tells ns m d l ct h hl hz))) (ev_nextX (g1 := S1) (ev_asg (ev_call (g1 := S0) rfl e) rfl) (ev_exc (ev_ifT (g1 := S1) rfl (ev_exc rfl))))
theorem first_some (ns : List Int) (m d : Int) (l : List Int) (ct : Int) (h : Case m d) (hl : okLiars m l = true) (hz : l.length ≤ 1000) (hn : nL m d l ≤ 10) (p : Int × List Int) (hf : findL m d l = some p) : Tells h_first_lies ns [.dat (.int m), .dat (.int d), .dat (eT l)] ct (eR p) ct := by
  let S0 : Sg := ⟨[.dat (.int m), .dat (.int d), .dat (eT l), .no], ct⟩
  let S1 : Sg := ⟨[.dat (.int m), .dat (.int d), .dat (eT l), .dat (eR p)], ct⟩
  have e := found_tells ns m d l ct h hn
  rw [hf] at e
  refine tells_fn (g := S1) rfl ?_
  exact ev_next (ev_drop (ev_call (g1 := S0) rfl (check_tells ns m d l ct h hl hz))) (ev_next (g1 := S1) (ev_asg (ev_call (g1 := S0) rfl e) rfl) (ev_next (ev_ifF (g1 := S1) rfl rfl) (ev_stop (ev_ret rfl) (fun z => nomatch z))))
end K68

set_option Elab.async false
set_option linter.all false
set_option maxRecDepth 100000
set_option maxHeartbeats 4000000
namespace K68
open PySem PySem.Spec L2 DL
theorem ev_orF {f k : M Bool} {g g1 : Sg} {r : Res Bool} (h : f g = .ok false g1) (h2 : k g1 = r) : orM f k g = r := ev_bind h h2
theorem ev_orT {f k : M Bool} {g g1 : Sg} (h : f g = .ok true g1) : orM f k g = .ok true g1 := ev_bind h rfl
theorem ev_andT {f k : M Bool} {g g1 : Sg} {r : Res Bool} (h : f g = .ok true g1) (h2 : k g1 = r) : andM f k g = r := ev_bind h h2
theorem ev_andF {f k : M Bool} {g g1 : Sg} (h : f g = .ok false g1) : andM f k g = .ok false g1 := ev_bind h rfl
theorem ev_not {f : M Bool} {g g1 : Sg} {b : Bool} (h : f g = .ok b g1) : notM f g = .ok (!b) g1 := ev_bind h rfl
theorem lies_bits (n : Nat) : ∀ w ∈ lies n, ∀ x ∈ w, x = 0 ∨ x = 1 := by
  induction n with
  | zero => intro w hw x hx; obtain rfl := List.mem_singleton.mp hw; cases hx
  | succ n ih =>
    intro w hw x hx
    obtain ⟨u, hu, hw⟩ := List.mem_flatMap.mp hw
    obtain ⟨y, hy, rfl⟩ := List.mem_map.mp hw
    rcases List.mem_append.mp hx with hx | hx
    · exact ih u hu x hx
    · obtain rfl := List.mem_singleton.mp hx
      simpa using hy
theorem findL_some {m d : Int} {l : List Int} {p : Int × List Int} (h : findL m d l = some p) : (p.1 = 0 ∨ p.1 = 1) ∧ p.2 ∈ lies (nL m d l) ∧ keptL l p.1 (decL m d l p.1 p.2) = false := by
  unfold findL at h
  obtain ⟨o, ho, h⟩ := List.exists_of_findSome?_eq_some h
  obtain ⟨w, hw, h⟩ := List.exists_of_findSome?_eq_some h
  unfold badL at h
  split at h
  · cases h
  · rename_i hk
    cases h
    exact ⟨by simpa using ho, hw, by simpa using hk⟩
theorem broken_tells (ns : List Int) (m d : Int) (l : List Int) (ct : Int) (h : Case m d) (hl : okLiars m l = true) (hz : l.length ≤ 1000) (hn : nL m d l ≤ 10) (p : Int × List Int) (hf : findL m d l = some p) : Tells h_check_broken ns [.dat (.int m), .dat (.int d), .dat (eT l), .dat (eR p)] ct (.bool true) ct := by
  obtain ⟨b1, b2, b3, b4⟩ := h.bounds
  obtain ⟨ho, hw, hk⟩ := findL_some hf
  have hlen := lies_word _ _ hw
  have hbits := lies_bits _ _ hw
  obtain ⟨o, w⟩ := p
  let S0 : Sg := ⟨[.dat (.int m), .dat (.int d), .dat (eT l), .dat (eR (o, w)), .no], ct⟩
  refine tells_fn (g := S0) rfl ?_
  have i0 : (op2 ixD (getM 3) (pureM (.int 0))) S0 = .ok (.int o) S0 := rfl
  have i1 : (op2 ixD (getM 3) (pureM (.int 1))) S0 = .ok (eT w) S0 := rfl
  have two : (tupM (consM (pureM (.int 0)) (consM (pureM (.int 1)) (pureM [])))) S0 = .ok (eT [0, 1]) S0 := ev_tup (ds := [.int 0, .int 1]) (g1 := S0) rfl (by decide)
  have c1 : (orM (asB (op2 neD (opN lenD (consM (getM 3) (pureM []))) (pureM (.int 2)))) (orM (asB (op2 (inD true) (op2 ixD (getM 3) (pureM (.int 0))) (tupM (consM (pureM (.int 0)) (consM (pureM (.int 1)) (pureM [])))))) (asB (op2 neD (opN lenD (consM (op2 ixD (getM 3) (pureM (.int 1))) (pureM []))) (opN lenD (consM (callM h_known_lying ns (datsM (consM (getM 0) (consM (getM 1) (consM (getM 2) (pureM [])))))) (pureM []))))))) S0 = .ok false S0 := by
    refine ev_orF (g1 := S0) rfl (ev_orF (g1 := S0) (ev_asB (ev_op2 i0 two ((in_T true o [0, 1]).trans ?_))) (ev_asB (ev_op2 (g1 := S0) (x := .int (w.length : Nat)) (y := .int (nL m d l : Nat)) (ev_opN (ev_cons i1 rfl) ?_) (ev_opN (xs := [.list ((L m d l).map eT)]) (ev_cons (ev_call (g1 := S0) rfl (known_lying_tells ns m d l ct h)) rfl) ?_) ?_)))
    · rcases ho with e | e <;> (have e : o = _ := e; subst e; rfl)
    · show some (PyData.int ((w.map PyData.int).length : Nat)) = _
      rw [List.length_map]
    · show some (PyData.int (((L m d l).map eT).length : Nat)) = _
      rw [List.length_map]
      rfl
    · show some (PyData.bool (!(((w.length : Nat) : Int) == ((nL m d l : Nat) : Int)))) = _
      rw [show w.length = nL m d l from hlen]
      simp
  have c2 : (notM (asB (opN allD (consM (lstM (lcM (srcM (op2 ixD (getM 3) (pureM (.int 1)))) (putM 4) yesM (op2 (inD false) (getM 4) (tupM (consM (pureM (.int 0)) (consM (pureM (.int 1)) (pureM []))))) [4])) (pureM []))))) S0 = .ok false S0 := by
    refine ev_bind (a := true) (g1 := S0) (ev_asB (ev_opN (ev_cons (g1 := S0) (d := .list (w.map fun x => PyData.bool (([0, 1] : List Int).contains x))) (ev_lst ?_) rfl) ((all_bls w _).trans ?_))) rfl
    · refine lcTm (g1 := S0) PyData.int w (fun x => PyData.bool (([0, 1] : List Int).contains x)) (ev_bind i1 rfl) (fun x hx => ?_) (big (by rw [hlen]; omega))
      let S3 : Sg := ⟨[.dat (.int m), .dat (.int d), .dat (eT l), .dat (eR (o, w)), .dat (.int x)], ct⟩
      refine ⟨S3, S3, rfl, ev_op2 (g1 := S3) rfl (ev_tup (ds := [.int 0, .int 1]) (g1 := S3) rfl (by decide)) ((in_T false x [0, 1]).trans (by rw [Bool.false_bne])), rfl⟩
    · rw [List.all_eq_true.mpr]
      intro x hx
      rcases hbits x hx with e | e <;> (subst e; rfl)
  have hdl : (decL m d l o w).length ≤ 1000 := by unfold decL; rw [List.length_cons, List.length_map, len_rngI]; omega
  have hk' : keptL l o (decL m d l o w) = false := hk
  have c3 : (asB (callM h_is_kept ns (datsM (consM (getM 2) (consM (op2 ixD (getM 3) (pureM (.int 0))) (consM (callM h_known_decided ns (datsM (consM (getM 0) (consM (getM 1) (consM (getM 2) (consM (op2 ixD (getM 3) (pureM (.int 0))) (consM (op2 ixD (getM 3) (pureM (.int 1))) (pureM [])))))))) (pureM []))))))) S0 = .ok false S0 := by
    have := is_kept_tells ns l o (decL m d l o w) ct hdl
    rw [hk'] at this
    refine ev_asB (ev_call (g1 := S0) (ss := [.dat (eT l), .dat (.int o), .dat (eT (decL m d l o w))]) (ev_dats (ds := [eT l, .int o, eT (decL m d l o w)]) (ev_cons (g1 := S0) rfl (ev_cons i0 (ev_cons (ev_call (g1 := S0) rfl (known_decided_tells ns m d l o w ct h hlen)) rfl)))) this)
  exact ev_next (ev_drop (ev_call (g1 := S0) rfl (check_tells ns m d l ct h hl hz))) (ev_next (ev_ifF c1 rfl) (ev_next (ev_ifF c2 rfl) (ev_next (ev_ifF c3 rfl) (ev_stop (ev_ret rfl) (fun z => nomatch z)))))
end K68

set_option Elab.async false
set_option linter.all false
set_option maxRecDepth 100000
set_option maxHeartbeats 4000000
namespace K68
open PySem PySem.Spec L2 DL
/-! the sets of liars -/
def topOf (w : List Int) : Int := if w.length = 0 then -1 else lst w
def nextS (m : Int) (ws : List (List Int)) : List (List Int) := ws.flatMap fun w => (rngI (topOf w + 1) m).map fun x => w ++ [x]
def setsL (m : Int) : Nat → List (List Int)
  | 0 => [[]]
  | n + 1 => nextS m (setsL m n)
/-- facts of the sets, by looking at them -/
theorem sets_ok : ∀ m ∈ ([1, 2, 3, 4, 5] : List Int), ∀ n ∈ List.range 6, (setsL m n).length ≤ 20 ∧ ∀ w ∈ setsL m n, w.length = n ∧ okLiars m w = true ∧ -1 ≤ topOf w ∧ topOf w ≤ 5 := by decide +kernel
def Su (m d n : Int) (ct : Int) (w : Lst) : Sg := ⟨[.dat (.int m), .dat (.int d), .dat (.int n), .dat (.list (w.a.map eT)), w.s, .no, .no], ct⟩
theorem sets_turn (m d n ct : Int) (hm0 : 0 ≤ m) (hm : m ≤ 5) (k : Int) (w : Lst) (h1 : w.a.length ≤ 100) (h2 : ∀ u ∈ w.a, u.length ≤ 10 ∧ -1 ≤ topOf u ∧ topOf u ≤ 5) :
    goG (putM 4 (.int k)) (seqM (asgM (lstM (lc2M (srcM (getM 3)) (putM 5) yesM (srcA rng2 (consM (op2 addD (ifM (asB (op2 gtD (opN lenD (consM (getM 5) (pureM []))) (pureM (.int 0)))) (op2 ixD (getM 5) (op1 negD (pureM (.int 1)))) (op1 negD (pureM (.int 1)))) (pureM (.int 1))) (consM (getM 0) (pureM [])))) (putM 6) yesM (tupM (starM (getM 5) (consM (getM 6) (pureM [])))) [5, 6] [6])) (putM 3))
  nextM) (Su m d n ct w) = .ok .next (Su m d n ct ⟨nextS m w.a, .dat (.int k)⟩) := by
  refine ev_go (g1 := Su m d n ct ⟨w.a, .dat (.int k)⟩) rfl ?_
  refine ev_next (ev_asg (g1 := Su m d n ct ⟨w.a, .dat (.int k)⟩) (d := .list ((nextS m w.a).map eT)) (ev_lst ?_) rfl) rfl
  have := lc2T (src := srcM (getM 3)) (k := putM 5) (src1 := srcA rng2 (consM (op2 addD (ifM (asB (op2 gtD (opN lenD (consM (getM 5) (pureM []))) (pureM (.int 0)))) (op2 ixD (getM 5) (op1 negD (pureM (.int 1)))) (op1 negD (pureM (.int 1)))) (pureM (.int 1))) (consM (getM 0) (pureM [])))) (k1 := putM 6) (c1 := yesM) (e := tupM (starM (getM 5) (consM (getM 6) (pureM [])))) (vs := [5, 6]) (vs1 := [6]) (g := Su m d n ct ⟨w.a, .dat (.int k)⟩) (g1 := Su m d n ct ⟨w.a, .dat (.int k)⟩)
      eT PyData.int w.a (fun u => rngI (topOf u + 1) m) (fun _ _ => true) (fun u x => eT (u ++ [x])) rfl (fun u hu => by
        obtain ⟨l1, l2, l3⟩ := h2 u hu
        let S3 : Sg := ⟨[.dat (.int m), .dat (.int d), .dat (.int n), .dat (.list (w.a.map eT)), .dat (.int k), .dat (eT u), .no], ct⟩
        have et : (ifM (asB (op2 gtD (opN lenD (consM (getM 5) (pureM []))) (pureM (.int 0)))) (op2 ixD (getM 5) (op1 negD (pureM (.int 1)))) (op1 negD (pureM (.int 1)))) S3 = .ok (.int (topOf u)) S3 := by
          have el : (asB (op2 gtD (opN lenD (consM (getM 5) (pureM []))) (pureM (.int 0)))) S3 = .ok (decide ((0 : Int) < (u.length : Nat))) S3 := by
            refine ev_asB (ev_op2 (g1 := S3) (g2 := S3) (x := .int (u.length : Nat)) (ev_opN (xs := [eT u]) rfl ?_) rfl rfl)
            show some (PyData.int ((u.map PyData.int).length : Nat)) = _
            rw [List.length_map]
          refine ev_if el (fun hb => ?_) (fun hb => ?_)
          · have hu0 : 1 ≤ u.length := by have := of_decide_eq_true hb; omega
            refine ev_op2 (g1 := S3) (g2 := S3) (y := .int (-1)) rfl rfl ((ix_lst hu0).trans ?_)
            unfold topOf
            rw [if_neg (by omega)]
          · have hu0 : u.length = 0 := by have := of_decide_eq_false hb; omega
            unfold topOf
            rw [if_pos hu0]
            rfl
        refine ⟨S3, S3, rfl, ev_srcA (ds := [.int (topOf u + 1), .int m]) (ev_cons (ev_op2 et rfl rfl) rfl) (rng2_i _ _ (by omega) (by omega) (by omega) (by omega)), rfl, fun x hx => ?_⟩
        let S4 : Sg := ⟨[.dat (.int m), .dat (.int d), .dat (.int n), .dat (.list (w.a.map eT)), .dat (.int k), .dat (eT u), .dat (.int x)], ct⟩
        refine ⟨S4, S4, rfl, rfl, (by intro z; cases z), fun _ => ⟨S4, ?_, rfl⟩⟩
        have e1 := ev_star (f := getM 5) (r := consM (getM 6) (pureM [])) (g := S4) (g1 := S4) (g2 := S4) (d := eT u) (ds := [.int x]) rfl rfl rfl
        have e2 : u.map PyData.int ++ [PyData.int x] = (u ++ [x]).map PyData.int := by rw [List.map_append]; rfl
        rw [e2] at e1
        exact ev_tup e1 (by rw [List.length_map, List.length_append]; exact big (by simp; omega))) (by
          have : ∀ ws : List (List Int), (∀ u ∈ ws, -1 ≤ topOf u) → (ws.map fun u => (rngI (topOf u + 1) m).length).sum ≤ ws.length * 5 := by
            intro ws
            induction ws with
            | nil => intro _; exact Nat.zero_le _
            | cons u r ih =>
              intro hh
              have h3 := ih fun u hu => hh u (List.mem_cons_of_mem _ hu)
              have h4 := hh u List.mem_cons_self
              rw [List.map_cons, List.sum_cons, len_rngI, List.length_cons]
              omega
          have := this w.a fun u hu => (h2 u hu).2.1
          exact big (by omega))
  refine this.trans ?_
  show Res.ok _ _ = Res.ok _ _
  congr 1
  unfold nextS
  rw [List.map_flatMap]
  congr 1
  funext u
  rw [List.filter_eq_self.mpr fun _ _ => rfl, List.map_map]
  rfl
end K68

set_option Elab.async false
set_option linter.all false
set_option maxRecDepth 100000
set_option maxHeartbeats 4000000
namespace K68
open PySem PySem.Spec L2 DL
theorem Case.mem5 {m d : Int} (h : Case m d) : m ∈ ([1, 2, 3, 4, 5] : List Int) := by
  obtain ⟨b1, b2, _, _⟩ := h.bounds
  have : m = 1 ∨ m = 2 ∨ m = 3 ∨ m = 4 ∨ m = 5 := by omega
  rcases this with e | e | e | e | e <;> (subst e; decide)
theorem sets_facts {m d : Int} (h : Case m d) {n : Nat} (hn : (n : Int) ≤ m) : (setsL m n).length ≤ 20 ∧ ∀ w ∈ setsL m n, w.length = n ∧ okLiars m w = true ∧ -1 ≤ topOf w ∧ topOf w ≤ 5 := by
  obtain ⟨b1, b2, _, _⟩ := h.bounds
  exact sets_ok m h.mem5 n (List.mem_range.mpr (by omega))
/-- up to the comprehension that may raise -/
theorem unsafe_pre (ns : List Int) (m d : Int) (n : Nat) (ct : Int) (h : Case m d) (hn : (n : Int) ≤ m) : ∃ s, ∀ r : Res Fl, seqM (retM (lstM (lcXM (srcM (getM 3)) (putM 5) (asB (op2 (isND true) (callM h_found_lies ns (datsM (consM (getM 0) (consM (getM 1) (consM (getM 5) (pureM [])))))) (pureM .none))) (getM 5) [5]))) nextM (Su m d n ct ⟨setsL m n, s⟩) = r → m_unsafe_sets ns ⟨[.dat (.int m), .dat (.int d), .dat (.int (n : Nat)), .no, .no, .no, .no], ct⟩ = r := by
  obtain ⟨b1, b2, b3, b4⟩ := h.bounds
  obtain ⟨g', hf, i, s, hg, hi⟩ := forM_rel (k := putM 4) (body := (seqM (asgM (lstM (lc2M (srcM (getM 3)) (putM 5) yesM (srcA rng2 (consM (op2 addD (ifM (asB (op2 gtD (opN lenD (consM (getM 5) (pureM []))) (pureM (.int 0)))) (op2 ixD (getM 5) (op1 negD (pureM (.int 1)))) (op1 negD (pureM (.int 1)))) (pureM (.int 1))) (consM (getM 0) (pureM [])))) (putM 6) yesM (tupM (starM (getM 5) (consM (getM 6) (pureM [])))) [5, 6] [6])) (putM 3))
  nextM)) (enc := PyData.int)
    (fun r g => ∃ (i : Nat) (s : Slot), g = Su m d n ct ⟨setsL m i, s⟩ ∧ i + r.length = n) (fun x r g hI => by
      obtain ⟨i, s, rfl, hi⟩ := hI
      rw [List.length_cons] at hi
      have hfac := sets_facts h (n := i) (by omega)
      exact ⟨_, sets_turn m d n ct (by omega) b2 x ⟨setsL m i, s⟩ (by have := hfac.1; show (setsL m i).length ≤ 100; omega) (fun u hu => by have := hfac.2 u hu; exact ⟨by omega, this.2.2⟩), i + 1, _, rfl, by omega⟩) (rngI 0 (n : Nat)) (Su m d n ct ⟨setsL m 0, .no⟩) ⟨0, .no, rfl, by rw [len_rngI]; omega⟩
  obtain rfl : i = n := by simpa using hi
  refine ⟨s, fun r hr => ?_⟩
  let S0 : Sg := ⟨[.dat (.int m), .dat (.int d), .dat (.int (i : Nat)), .no, .no, .no, .no], ct⟩
  have c1 : (asB (op2 gtD (getM 2) (getM 0))) S0 = .ok false S0 := by
    refine ev_asB (ev_op2 (g2 := S0) (x := .int (i : Nat)) (y := .int m) rfl rfl ?_)
    show some (PyData.bool (decide (m < (i : Nat)))) = _
    rw [decide_eq_false (by omega)]
  have c2 : (asB (op2 ltD (getM 2) (pureM (.int 0)))) S0 = .ok false S0 := by
    refine ev_asB (ev_op2 (g2 := S0) (x := .int (i : Nat)) (y := .int 0) rfl rfl ?_)
    show some (PyData.bool (decide (((i : Nat) : Int) < 0))) = _
    rw [decide_eq_false (by omega)]
  refine ev_next (g1 := S0) (ev_drop (ev_call (g1 := S0) (ss := [.dat (.int m), .dat (.int d), .dat (eT [])]) rfl (check_tells ns m d [] ct h rfl (Nat.zero_le _)))) (ev_next (ev_ifF c1 rfl) (ev_next (ev_ifF c2 rfl) (ev_next (g1 := Su m d i ct ⟨setsL m 0, .no⟩) rfl (ev_next (g1 := g') (ev_for (g1 := Su m d i ct ⟨setsL m 0, .no⟩) (ev_srcA (ds := [.int (i : Nat)]) rfl (rng1_i i (by omega) (by omega))) hf) ?_))))
  rw [hg]
  exact hr
def badSets (m d : Int) (n : Nat) : List (List Int) := (setsL m n).filter fun w => (findL m d w).isSome
theorem unsafe_turn (ns : List Int) (m d : Int) (n : Nat) (s : Slot) (ct : Int) (h : Case m d) (w : List Int) (hn : nL m d w ≤ 10) : Turn1 (putM 5) (asB (op2 (isND true) (callM h_found_lies ns (datsM (consM (getM 0) (consM (getM 1) (consM (getM 5) (pureM [])))))) (pureM .none))) (getM 5) [5] (Su m d n ct ⟨setsL m n, s⟩) (eT w) ((findL m d w).isSome) (eT w) := by
  let S3 : Sg := ⟨[.dat (.int m), .dat (.int d), .dat (.int (n : Nat)), .dat (.list ((setsL m n).map eT)), s, .dat (eT w), .no], ct⟩
  refine ⟨S3, S3, rfl, ev_asB (ev_op2 (ev_call (g1 := S3) rfl (found_tells ns m d w ct h hn)) rfl ((isno_R _ true).trans ?_)), fun _ => rfl, fun _ => ⟨S3, rfl, rfl⟩⟩
  cases findL m d w <;> rfl
theorem unsafe_tells (ns : List Int) (m d : Int) (n : Nat) (ct : Int) (h : Case m d) (hn : (n : Int) ≤ m) (ha : ∀ w ∈ setsL m n, nL m d w ≤ 10) : Tells h_unsafe_sets ns [.dat (.int m), .dat (.int d), .dat (.int (n : Nat))] ct (.list ((badSets m d n).map eT)) ct := by
  obtain ⟨s, hs⟩ := unsafe_pre ns m d n ct h hn
  have hfac := sets_facts h hn
  refine tells_fn (g := Su m d n ct ⟨setsL m n, s⟩) rfl (hs _ (ev_stop (ev_ret (ev_lst ?_)) (fun z => nomatch z)))
  exact lcXT (g1 := Su m d n ct ⟨setsL m n, s⟩) eT (setsL m n) (fun w => (findL m d w).isSome) eT rfl (fun w hw => unsafe_turn ns m d n s ct h w (ha w hw)) (big (by omega))
end K68

set_option Elab.async false
set_option linter.all false
set_option maxRecDepth 100000
set_option maxHeartbeats 4000000
namespace K68
open PySem PySem.Spec L2 DL
theorem ev_dropX {α : Type} {f : M α} {g : Sg} {n : Str} {ct : Int} (h : f g = .exc n ct) : dropM f g = .exc n ct := by
  show (f g).bind _ = _
  rw [h]
  rfl
theorem ev_lstX {f : M (List D)} {g : Sg} {n : Str} {ct : Int} (h : f g = .exc n ct) : lstM f g = .exc n ct := by
  show (f g).bind _ = _
  rw [h]
  rfl
theorem ev_asBX {f : M D} {g : Sg} {n : Str} {ct : Int} (h : f g = .exc n ct) : asB f g = .exc n ct := by
  show (f g).bind _ = _
  rw [h]
  rfl
theorem ev_opNX {o : List D → Option D} {f : M (List D)} {g : Sg} {n : Str} {ct : Int} (h : f g = .exc n ct) : opN o f g = .exc n ct := by
  show (f g).bind _ = _
  rw [h]
  rfl
theorem ev_consX {f : M D} {r : M (List D)} {g : Sg} {n : Str} {ct : Int} (h : f g = .exc n ct) : consM f r g = .exc n ct := by
  show (f g).bind _ = _
  rw [h]
  rfl
theorem ev_andX {f k : M Bool} {g g1 : Sg} {n : Str} {ct : Int} (h : f g = .ok true g1) (h2 : k g1 = .exc n ct) : andM f k g = .exc n ct := ev_bind h h2
/-! cases that are none -/
theorem check_large (ns : List Int) (m d : Int) (l : List Int) (ct : Int) (h : 5 < m ∨ 2 < d) : h_check_case ns [.dat (.int m), .dat (.int d), .dat (eT l)] ct = .exc "TooLarge" ct := by
  let S0 : Sg := ⟨[.dat (.int m), .dat (.int d), .dat (eT l), .no, .no], ct⟩
  refine raises_fn rfl ?_
  have c1 : (orM (asB (op2 gtD (getM 0) (pureM (.int 5)))) (asB (op2 gtD (getM 1) (pureM (.int 2))))) S0 = .ok true S0 := by
    by_cases h1 : 5 < m
    · refine ev_orT (ev_asB (ev_op2 (g2 := S0) (x := .int m) (y := .int 5) rfl rfl ?_))
      show some (PyData.bool (decide ((5 : Int) < m))) = _
      rw [decide_eq_true h1]
    · refine ev_orF (g1 := S0) (ev_asB (ev_op2 (g2 := S0) (x := .int m) (y := .int 5) rfl rfl ?_)) (ev_asB (ev_op2 (g2 := S0) (x := .int d) (y := .int 2) rfl rfl ?_))
      · show some (PyData.bool (decide ((5 : Int) < m))) = _
        rw [decide_eq_false h1]
      · show some (PyData.bool (decide ((2 : Int) < d))) = _
        rw [decide_eq_true (by omega)]
  exact ev_exc (ev_ifT c1 (ev_exc rfl))
theorem check_low (ns : List Int) (m d : Int) (l : List Int) (ct : Int) (h0 : m ≤ 5) (h1 : d ≤ 2) (h : m < 1 ∨ d < 0) : h_check_case ns [.dat (.int m), .dat (.int d), .dat (eT l)] ct = .exc "NotAllowed" ct := by
  let S0 : Sg := ⟨[.dat (.int m), .dat (.int d), .dat (eT l), .no, .no], ct⟩
  refine raises_fn rfl ?_
  have c1 : (orM (asB (op2 gtD (getM 0) (pureM (.int 5)))) (asB (op2 gtD (getM 1) (pureM (.int 2))))) S0 = .ok false S0 := by
    refine ev_orF (g1 := S0) (ev_asB (ev_op2 (g2 := S0) (x := .int m) (y := .int 5) rfl rfl ?_)) (ev_asB (ev_op2 (g2 := S0) (x := .int d) (y := .int 2) rfl rfl ?_))
    · show some (PyData.bool (decide ((5 : Int) < m))) = _
      rw [decide_eq_false (by omega)]
    · show some (PyData.bool (decide ((2 : Int) < d))) = _
      rw [decide_eq_false (by omega)]
  have c2 : (orM (asB (op2 ltD (getM 0) (pureM (.int 1)))) (asB (op2 ltD (getM 1) (pureM (.int 0))))) S0 = .ok true S0 := by
    by_cases h3 : m < 1
    · refine ev_orT (ev_asB (ev_op2 (g2 := S0) (x := .int m) (y := .int 1) rfl rfl ?_))
      show some (PyData.bool (decide (m < 1))) = _
      rw [decide_eq_true h3]
    · refine ev_orF (g1 := S0) (ev_asB (ev_op2 (g2 := S0) (x := .int m) (y := .int 1) rfl rfl ?_)) (ev_asB (ev_op2 (g2 := S0) (x := .int d) (y := .int 0) rfl rfl ?_))
      · show some (PyData.bool (decide (m < 1))) = _
        rw [decide_eq_false h3]
      · show some (PyData.bool (decide (d < 0))) = _
        rw [decide_eq_true (by omega)]
  exact ev_nextX (ev_ifF c1 rfl) (ev_exc (ev_ifT c2 (ev_exc rfl)))
theorem check_liars (ns : List Int) (m d : Int) (l : List Int) (ct : Int) (h : Case m d) (hl : okLiars m l = false) (hz : l.length ≤ 1000) : h_check_case ns [.dat (.int m), .dat (.int d), .dat (eT l)] ct = .exc "NotAllowed" ct := by
  obtain ⟨b1, b2, b3, b4⟩ := h.bounds
  let S0 : Sg := ⟨[.dat (.int m), .dat (.int d), .dat (eT l), .no, .no], ct⟩
  refine raises_fn rfl ?_
  have c1 : (orM (asB (op2 gtD (getM 0) (pureM (.int 5)))) (asB (op2 gtD (getM 1) (pureM (.int 2))))) S0 = .ok false S0 := by
    refine ev_orF (g1 := S0) (ev_asB (ev_op2 (g2 := S0) (x := .int m) (y := .int 5) rfl rfl ?_)) (ev_asB (ev_op2 (g2 := S0) (x := .int d) (y := .int 2) rfl rfl ?_))
    · show some (PyData.bool (decide ((5 : Int) < m))) = _
      rw [decide_eq_false (by omega)]
    · show some (PyData.bool (decide ((2 : Int) < d))) = _
      rw [decide_eq_false (by omega)]
  have c2 : (orM (asB (op2 ltD (getM 0) (pureM (.int 1)))) (asB (op2 ltD (getM 1) (pureM (.int 0))))) S0 = .ok false S0 := by
    refine ev_orF (g1 := S0) (ev_asB (ev_op2 (g2 := S0) (x := .int m) (y := .int 1) rfl rfl ?_)) (ev_asB (ev_op2 (g2 := S0) (x := .int d) (y := .int 0) rfl rfl ?_))
    · show some (PyData.bool (decide (m < 1))) = _
      rw [decide_eq_false (by omega)]
    · show some (PyData.bool (decide (d < 0))) = _
      rw [decide_eq_false (by omega)]
  have c3 : (opN allD (consM (lstM (lcM (srcM (getM 2)) (putM 3) yesM (chainM leD ltD (pureM (.int 0)) (getM 3) (getM 0)) [3])) (pureM []))) S0 = .ok (.bool (l.all fun x => decide (0 ≤ x ∧ x < m))) S0 := by
    refine ev_opN (ev_cons (g1 := S0) (d := .list (l.map fun x => PyData.bool (decide (0 ≤ x ∧ x < m)))) (ev_lst ?_) rfl) (all_bls l _)
    refine lcTm (g1 := S0) PyData.int l (fun x => PyData.bool (decide (0 ≤ x ∧ x < m))) rfl (fun x hx => ?_) (big (by omega))
    let S3 : Sg := ⟨[.dat (.int m), .dat (.int d), .dat (eT l), .dat (.int x), .no], ct⟩
    refine ⟨S3, S3, rfl, ?_, rfl⟩
    refine ev_bind (g1 := S3) rfl (ev_bind (a := .int x) (g1 := S3) rfl ?_)
    show (bindM (liftO (some (PyData.bool (decide ((0 : Int) ≤ x))))) _) S3 = _
    by_cases h0 : (0 : Int) ≤ x
    · rw [decide_eq_true h0]
      by_cases h1 : x < m
      · rw [decide_eq_true (⟨h0, h1⟩ : 0 ≤ x ∧ x < m)]
        show Res.ok (PyData.bool (decide (x < m))) S3 = _
        rw [decide_eq_true h1]
      · rw [decide_eq_false (fun z => h1 z.2 : ¬ (0 ≤ x ∧ x < m))]
        show Res.ok (PyData.bool (decide (x < m))) S3 = _
        rw [decide_eq_false h1]
    · rw [decide_eq_false h0, decide_eq_false (fun z => h0 z.1 : ¬ (0 ≤ x ∧ x < m))]
      rfl
  have c4 : (opN allD (consM (lstM (lcM (srcA zipD (consM (getM 2) (consM (sliceM (getM 2) (partM (pureM (.int 1))) (pureM none)) (pureM [])))) (tupG 2 (gConsM (putM 3) (gConsM (putM 4) gNilM))) yesM (op2 ltD (getM 3) (getM 4)) [3, 4])) (pureM []))) S0 = .ok (.bool ((l.zip l.tail).all fun p => decide (p.1 < p.2))) S0 := by
    refine ev_opN (ev_cons (g1 := S0) (d := .list ((l.zip l.tail).map fun p => PyData.bool (decide (p.1 < p.2)))) (ev_lst ?_) rfl) (all_bls _ _)
    refine lcTm (g1 := S0) (fun p : Int × Int => PyData.tuple [.int p.1, .int p.2]) (l.zip l.tail) (fun p => PyData.bool (decide (p.1 < p.2))) ?_ (fun p hp => ?_) (big (by rw [List.length_zip]; omega))
    · refine ev_srcA (ds := [eT l, eT l.tail]) (ev_cons (g1 := S0) rfl (ev_cons (g1 := S0) (ev_bind (a := eT l) (g1 := S0) rfl (ev_bind (a := some 1) (g1 := S0) rfl (ev_bind (a := none) (g1 := S0) rfl ?_))) rfl)) ?_
      · show Res.ok (PyData.tuple (cutL (l.map PyData.int) (some 1) none)) S0 = _
        rw [cut_tail, ← List.map_tail]
      · show some (zipL (l.map PyData.int) (l.tail.map PyData.int)) = _
        rw [zipD_map]
    · let S3 : Sg := ⟨[.dat (.int m), .dat (.int d), .dat (eT l), .dat (.int p.1), .dat (.int p.2)], ct⟩
      exact ⟨S3, S3, rfl, rfl, rfl⟩
  refine ev_nextX (ev_ifF c1 rfl) (ev_nextX (ev_ifF c2 rfl) (ev_exc (ev_ifT (g1 := S0) ?_ (ev_exc rfl))))
  unfold okLiars at hl
  cases e : l.all fun x => decide (0 ≤ x ∧ x < m) with
  | false =>
    rw [e] at c3
    exact ev_orT (ev_not (ev_asB c3))
  | true =>
    rw [e, Bool.true_and] at hl
    rw [e] at c3
    rw [hl] at c4
    exact ev_orF (ev_not (ev_asB c3)) (ev_not (ev_asB c4))
/-- what raises because the case is none -/
theorem is_safeX (ns : List Int) (m d : Int) (l : List Int) (n : Str) (ct : Int) (h : h_check_case ns [.dat (.int m), .dat (.int d), .dat (eT l)] ct = .exc n ct) : h_is_safe ns [.dat (.int m), .dat (.int d), .dat (eT l)] ct = .exc n ct :=
  raises_fn rfl (ev_exc (ev_dropX (ev_callX (g1 := ⟨[.dat (.int m), .dat (.int d), .dat (eT l)], ct⟩) rfl h)))
theorem firstX (ns : List Int) (m d : Int) (l : List Int) (n : Str) (ct : Int) (h : h_check_case ns [.dat (.int m), .dat (.int d), .dat (eT l)] ct = .exc n ct) : h_first_lies ns [.dat (.int m), .dat (.int d), .dat (eT l)] ct = .exc n ct :=
  raises_fn rfl (ev_exc (ev_dropX (ev_callX (g1 := ⟨[.dat (.int m), .dat (.int d), .dat (eT l), .no], ct⟩) rfl h)))
theorem bearsX (ns : List Int) (m d : Int) (n : Str) (ct : Int) (h : h_check_case ns [.dat (.int m), .dat (.int d), .dat (eT [])] ct = .exc n ct) : h_bears ns [.dat (.int m), .dat (.int d)] ct = .exc n ct :=
  raises_fn rfl (ev_exc (ev_dropX (ev_callX (g1 := ⟨[.dat (.int m), .dat (.int d), .no], ct⟩) (ss := [.dat (.int m), .dat (.int d), .dat (eT [])]) rfl h)))
theorem unsafe_over (ns : List Int) (m d n : Int) (ct : Int) (h : Case m d) (hn : m < n) : h_unsafe_sets ns [.dat (.int m), .dat (.int d), .dat (.int n)] ct = .exc "TooLarge" ct := by
  let S0 : Sg := ⟨[.dat (.int m), .dat (.int d), .dat (.int n), .no, .no, .no, .no], ct⟩
  have c1 : (asB (op2 gtD (getM 2) (getM 0))) S0 = .ok true S0 := by
    refine ev_asB (ev_op2 (g2 := S0) (x := .int n) (y := .int m) rfl rfl ?_)
    show some (PyData.bool (decide (m < n))) = _
    rw [decide_eq_true hn]
  exact raises_fn rfl (ev_nextX (g1 := S0) (ev_drop (ev_call (g1 := S0) (ss := [.dat (.int m), .dat (.int d), .dat (eT [])]) rfl (check_tells ns m d [] ct h rfl (Nat.zero_le _)))) (ev_exc (ev_ifT c1 (ev_exc rfl))))
theorem unsafe_under (ns : List Int) (m d n : Int) (ct : Int) (h : Case m d) (hn : n < 0) : h_unsafe_sets ns [.dat (.int m), .dat (.int d), .dat (.int n)] ct = .exc "NotAllowed" ct := by
  obtain ⟨b1, b2, b3, b4⟩ := h.bounds
  let S0 : Sg := ⟨[.dat (.int m), .dat (.int d), .dat (.int n), .no, .no, .no, .no], ct⟩
  have c1 : (asB (op2 gtD (getM 2) (getM 0))) S0 = .ok false S0 := by
    refine ev_asB (ev_op2 (g2 := S0) (x := .int n) (y := .int m) rfl rfl ?_)
    show some (PyData.bool (decide (m < n))) = _
    rw [decide_eq_false (by omega)]
  have c2 : (asB (op2 ltD (getM 2) (pureM (.int 0)))) S0 = .ok true S0 := by
    refine ev_asB (ev_op2 (g2 := S0) (x := .int n) (y := .int 0) rfl rfl ?_)
    show some (PyData.bool (decide (n < 0))) = _
    rw [decide_eq_true hn]
  exact raises_fn rfl (ev_nextX (g1 := S0) (ev_drop (ev_call (g1 := S0) (ss := [.dat (.int m), .dat (.int d), .dat (eT [])]) rfl (check_tells ns m d [] ct h rfl (Nat.zero_le _)))) (ev_nextX (ev_ifF c1 rfl) (ev_exc (ev_ifT c2 (ev_exc rfl)))))
theorem first_split {α : Type} (p : α → Bool) : ∀ l : List α, l.any p = true → ∃ xs y ys, l = xs ++ y :: ys ∧ (∀ x ∈ xs, p x = false) ∧ p y = true
  | [], h => by cases h
  | x :: r, h => by
    cases hp : p x with
    | true => exact ⟨[], x, r, rfl, (fun y hy => by cases hy), hp⟩
    | false =>
      rw [List.any_cons, hp, Bool.false_or] at h
      obtain ⟨xs, y, ys, e, h1, h2⟩ := first_split p r h
      refine ⟨x :: xs, y, ys, by rw [e]; rfl, fun z hz => ?_, h2⟩
      rcases List.mem_cons.mp hz with rfl | hz
      · exact hp
      · exact h1 z hz
def anyBig (m d : Int) (n : Nat) : Bool := (setsL m n).any fun w => decide (10 < nL m d w)
theorem unsafe_large (ns : List Int) (m d : Int) (n : Nat) (ct : Int) (h : Case m d) (hn : (n : Int) ≤ m) (ha : anyBig m d n = true) : h_unsafe_sets ns [.dat (.int m), .dat (.int d), .dat (.int (n : Nat))] ct = .exc "TooLarge" ct := by
  obtain ⟨s, hs⟩ := unsafe_pre ns m d n ct h hn
  have hfac := sets_facts h hn
  obtain ⟨xs, y, ys, e, h1, h2⟩ := first_split _ _ ha
  let S3 : Sg := ⟨[.dat (.int m), .dat (.int d), .dat (.int (n : Nat)), .dat (.list ((setsL m n).map eT)), s, .dat (eT y), .no], ct⟩
  refine raises_fn rfl (hs _ (ev_exc (ev_retX (ev_lstX ?_))))
  refine lcXR (g1 := Su m d n ct ⟨setsL m n, s⟩) (g2 := S3) eT xs ys y (fun w => (findL m d w).isSome) eT ?_ (fun w hw => unsafe_turn ns m d n s ct h w ?_) (big ?_) rfl (ev_asBX (ev_op2X (ev_callX (g1 := S3) rfl (found_large ns m d y ct h (of_decide_eq_true h2)))))
  · rw [← e]
    rfl
  · have := of_decide_eq_false (h1 w hw)
    omega
  · have := hfac.1
    rw [e, List.length_append] at this
    omega
theorem not_big {m d : Int} {n : Nat} (h : anyBig m d n = false) : ∀ w ∈ setsL m n, nL m d w ≤ 10 := by
  intro w hw
  unfold anyBig at h
  have := List.any_eq_false.mp h w hw
  simp at this
  exact this
/-! bears -/
def F (m d : Int) (n : Nat) : Option Nat := if anyBig m d n = true then none else some (badSets m d n).length
def bearsG (f : Nat → Option Nat) : Nat → Nat → Option Nat
  | 0, few => some few
  | k + 1, few => match f (few + 1) with
    | none => none
    | some 0 => bearsG f k (few + 1)
    | some (_ + 1) => some few
def bearsR (m d ct : Int) : Option Nat → Res Fl
  | none => .exc "TooLarge" ct
  | some b => .ok .next ⟨[.dat (.int m), .dat (.int d), .dat (.int (b : Nat))], ct⟩
theorem ev_whF {n : Nat} {c : M Bool} {body : M Fl} {g g1 : Sg} (h : c g = .ok false g1) : whileM (n + 1) c body g = .ok .next g1 := ev_bind h rfl
theorem ev_whT {n : Nat} {c : M Bool} {body : M Fl} {g g1 g2 : Sg} {r : Res Fl} (h : c g = .ok true g1) (h1 : body g1 = .ok .next g2) (h2 : whileM n c body g2 = r) : whileM (n + 1) c body g = r := ev_bind h (ev_bind h1 h2)
theorem ev_whX {n : Nat} {c : M Bool} {body : M Fl} {g : Sg} {nm : Str} {ct : Int} (h : c g = .exc nm ct) : whileM (n + 1) c body g = .exc nm ct := by
  show (c g).bind _ = _
  rw [h]
  rfl
theorem bears_loop (ns : List Int) (m d ct : Int) (h : Case m d) : ∀ (k few N : Nat), (few : Int) + k = m → k < N →
    whileM N (andM (asB (op2 ltD (getM 2) (getM 0))) (asB (op2 eqD (opN lenD (consM (callM h_unsafe_sets ns (datsM (consM (getM 0) (consM (getM 1) (consM (op2 addD (getM 2) (pureM (.int 1))) (pureM [])))))) (pureM []))) (pureM (.int 0)))))
  (seqM (augM 2 (i2D (fun _ _ => true) fun i j => .int (i + j)) (pureM (.int 1)))
  nextM) ⟨[.dat (.int m), .dat (.int d), .dat (.int (few : Nat))], ct⟩ = bearsR m d ct (bearsG (F m d) k few)
  | 0, few, N + 1, hk, _ => by
    have c1 : (asB (op2 ltD (getM 2) (getM 0))) (⟨[.dat (.int m), .dat (.int d), .dat (.int (few : Nat))], ct⟩ : Sg) = .ok false ⟨[.dat (.int m), .dat (.int d), .dat (.int (few : Nat))], ct⟩ := by
      refine ev_asB (ev_op2 (g2 := ⟨[.dat (.int m), .dat (.int d), .dat (.int (few : Nat))], ct⟩) (x := .int (few : Nat)) (y := .int m) rfl rfl ?_)
      show some (PyData.bool (decide (((few : Nat) : Int) < m))) = _
      rw [decide_eq_false (by omega)]
    exact ev_whF (ev_andF c1)
  | k + 1, few, N + 1, hk, hN => by
    obtain ⟨b1, b2, b3, b4⟩ := h.bounds
    let S : Sg := ⟨[.dat (.int m), .dat (.int d), .dat (.int (few : Nat))], ct⟩
    have c1 : (asB (op2 ltD (getM 2) (getM 0))) S = .ok true S := by
      refine ev_asB (ev_op2 (g2 := S) (x := .int (few : Nat)) (y := .int m) rfl rfl ?_)
      show some (PyData.bool (decide (((few : Nat) : Int) < m))) = _
      rw [decide_eq_true (by omega)]
    have ea : (datsM (consM (getM 0) (consM (getM 1) (consM (op2 addD (getM 2) (pureM (.int 1))) (pureM []))))) S = .ok [.dat (.int m), .dat (.int d), .dat (.int ((few + 1 : Nat) : Int))] S :=
      ev_dats (ds := [.int m, .int d, .int ((few + 1 : Nat) : Int)]) (ev_cons (g1 := S) rfl (ev_cons (g1 := S) rfl (ev_cons (g1 := S) rfl rfl)))
    cases hb : anyBig m d (few + 1) with
    | true =>
      have hF : F m d (few + 1) = none := by unfold F; rw [if_pos hb]
      have : bearsG (F m d) (k + 1) few = none := by unfold bearsG; rw [hF]
      rw [this]
      exact ev_whX (ev_andX c1 (ev_asBX (ev_op2X (ev_opNX (ev_consX (ev_callX ea (unsafe_large ns m d (few + 1) ct h (by omega) hb)))))))
    | false =>
      have hF : F m d (few + 1) = some (badSets m d (few + 1)).length := by unfold F; rw [if_neg (by rw [hb]; decide)]
      have ht := unsafe_tells ns m d (few + 1) ct h (by omega) (not_big hb)
      have c2 : (asB (op2 eqD (opN lenD (consM (callM h_unsafe_sets ns (datsM (consM (getM 0) (consM (getM 1) (consM (op2 addD (getM 2) (pureM (.int 1))) (pureM [])))))) (pureM []))) (pureM (.int 0)))) S = .ok (((badSets m d (few + 1)).length : Int) == 0) S := by
        refine ev_asB (ev_op2 (g1 := S) (g2 := S) (x := .int ((badSets m d (few + 1)).length : Nat)) (y := .int 0) (ev_opN (xs := [.list ((badSets m d (few + 1)).map eT)]) (ev_cons (g1 := S) (ev_call ea ht) rfl) ?_) rfl rfl)
        show some (PyData.int (((badSets m d (few + 1)).map eT).length : Nat)) = _
        rw [List.length_map]
      cases hq : (badSets m d (few + 1)).length with
      | zero =>
        have : bearsG (F m d) (k + 1) few = bearsG (F m d) k (few + 1) := by
          show (match F m d (few + 1) with | none => none | some 0 => bearsG (F m d) k (few + 1) | some (_ + 1) => some few) = _
          rw [hF, hq]
        rw [this]
        rw [hq] at c2
        exact ev_whT (ev_andT c1 c2) (g2 := ⟨[.dat (.int m), .dat (.int d), .dat (.int ((few + 1 : Nat) : Int))], ct⟩) rfl (bears_loop ns m d ct h k (few + 1) N (by omega) (by omega))
      | succ q =>
        have : bearsG (F m d) (k + 1) few = some few := by
          show (match F m d (few + 1) with | none => none | some 0 => bearsG (F m d) k (few + 1) | some (_ + 1) => some few) = _
          rw [hF, hq]
        rw [this]
        rw [hq] at c2
        have e : (((q + 1 : Nat) : Int) == 0) = false := beq_false_of_ne (by omega)
        rw [e] at c2
        exact ev_whF (ev_andT c1 c2)
theorem bears_pre (ns : List Int) (m d ct : Int) (h : Case m d) (r : Res Fl) (hr : (seqM (fun _ => bearsR m d ct (bearsG (F m d) m.toNat 0)) (seqM (retM (getM 2)) nextM)) (⟨[], 0⟩ : Sg) = r) : m_bears ns ⟨[.dat (.int m), .dat (.int d), .no], ct⟩ = r := by
  obtain ⟨b1, b2, b3, b4⟩ := h.bounds
  let S0 : Sg := ⟨[.dat (.int m), .dat (.int d), .no], ct⟩
  let S1 : Sg := ⟨[.dat (.int m), .dat (.int d), .dat (.int 0)], ct⟩
  refine ev_next (g1 := S0) (ev_drop (ev_call (g1 := S0) (ss := [.dat (.int m), .dat (.int d), .dat (eT [])]) rfl (check_tells ns m d [] ct h rfl (Nat.zero_le _)))) (ev_next (g1 := S1) rfl ?_)
  rw [← hr]
  show ((whileM 1000 _ _ S1).bind _) = ((bearsR m d ct (bearsG (F m d) m.toNat 0)).bind _)
  rw [show whileM 1000 _ _ S1 = _ from bears_loop ns m d ct h m.toNat 0 1000 (by omega) (by omega)]
theorem bears_tells (ns : List Int) (m d ct : Int) (h : Case m d) (b : Nat) (hb : bearsG (F m d) m.toNat 0 = some b) : Tells h_bears ns [.dat (.int m), .dat (.int d)] ct (.int (b : Nat)) ct := by
  refine tells_fn (g := ⟨[.dat (.int m), .dat (.int d), .dat (.int (b : Nat))], ct⟩) rfl (bears_pre ns m d ct h _ ?_)
  rw [hb]
  rfl
theorem bears_large (ns : List Int) (m d ct : Int) (h : Case m d) (hb : bearsG (F m d) m.toNat 0 = none) : h_bears ns [.dat (.int m), .dat (.int d)] ct = .exc "TooLarge" ct := by
  refine raises_fn rfl (bears_pre ns m d ct h _ ?_)
  rw [hb]
  rfl
end K68

set_option Elab.async false
set_option linter.all false
set_option maxRecDepth 100000
set_option maxHeartbeats 4000000
namespace K68
open PySem PySem.Spec L2 DL
theorem rngI_cons {a b : Int} (h : a < b) : rngI a b = a :: rngI (a + 1) b := by
  unfold rngI
  obtain ⟨n, hn⟩ : ∃ n, (b - a).toNat = n + 1 := ⟨(b - a).toNat - 1, by omega⟩
  rw [hn, show (b - (a + 1)).toNat = n by omega, List.range_succ_eq_map, List.map_cons, List.map_map]
  congr 1
  · simp
  · apply List.map_congr_left
    intro k _
    show a + ((k + 1 : Nat) : Int) = a + 1 + (k : Int)
    omega
theorem rngI_nil {a b : Int} (h : b ≤ a) : rngI a b = [] := by
  unfold rngI
  rw [show (b - a).toNat = 0 by omega]
  rfl
theorem rngI_inv {a b x : Int} {r : List Int} (h : x :: r = rngI a b) : x = a ∧ a < b ∧ r = rngI (a + 1) b := by
  by_cases hb : a < b
  · rw [rngI_cons hb] at h
    injection h with h1 h2
    exact ⟨h1, hb, h2⟩
  · rw [rngI_nil (by omega)] at h
    cases h
/-! the law's words -/
def rowsN (m : Int) : Nat → List (List Int)
  | 0 => [[0]]
  | n + 1 => nextW m (rowsN m n)
def WW (m : Int) : Nat → List (List Int)
  | 0 => []
  | n + 1 => WW m n ++ rowsN m (n + 1)
theorem WW_ok : ∀ p ∈ cs, W p.1 p.2 = WW p.1 (p.2 + 1).toNat ∧ ∀ n ∈ List.range 4, (n : Int) ≤ p.2 + 1 → (rowsN p.1 n).length ≤ 100 ∧ (WW p.1 n).length ≤ 100 ∧ ∀ w ∈ rowsN p.1 n, w.length ≤ 10 := by decide +kernel
theorem W_WW {m d : Int} (h : Case m d) : W m d = WW m (d + 1).toNat := (WW_ok (m, d) h).1
theorem rows_facts {m d : Int} (h : Case m d) {n : Nat} (hn : (n : Int) ≤ d + 1) : (rowsN m n).length ≤ 100 ∧ (WW m n).length ≤ 100 ∧ ∀ w ∈ rowsN m n, w.length ≤ 10 := by
  obtain ⟨b1, b2, b3, b4⟩ := h.bounds
  exact (WW_ok (m, d) h).2 n (List.mem_range.mpr (by omega)) hn
theorem next_cons (m : Int) (w : List Int) (r : List (List Int)) : nextW m (w :: r) = (((rngI 0 m).filter fun x => !w.contains x).map fun x => w ++ [x]) ++ nextW m r := rfl
def Slw (m d : Int) (fo : List (List Int)) (sz ro k lo rw : Slot) (ct : Int) : Sg := ⟨[.dat (.int m), .dat (.int d), .dat (.list (fo.map eT)), sz, ro, k, lo, rw, .no], ct⟩
abbrev dL (ws : List (List Int)) : Slot := .dat (.list (ws.map eT))
theorem lwords_in (m d : Int) (fo : List (List Int)) (sz k rw : Slot) (ct : Int) (hm0 : 0 ≤ m) (hm : m ≤ 5) (ws : List (List Int)) (h1 : ws.length ≤ 1000) (h2 : ∀ w ∈ ws, w.length ≤ 1000) :
    ∃ s, (forS (srcM (getM 4)) (putM 7)
  (seqM (asgM (op2 addD (getM 6) (lstM (lcM (srcA rng1 (consM (getM 0) (pureM []))) (putM 8) (asB (op2 (inD true) (getM 8) (getM 7))) (op2 addD (getM 7) (tupM (consM (getM 8) (pureM [])))) [8]))) (putM 6))
  nextM)) (Slw m d fo sz (dL ws) k (dL []) rw ct) = .ok .next (Slw m d fo sz (dL ws) k (dL (nextW m ws)) s ct) := by
  have hlen := next_len hm ws
  obtain ⟨g', hf, acc, s, hg, hi, _⟩ := forM_rel (k := putM 7) (body := (seqM (asgM (op2 addD (getM 6) (lstM (lcM (srcA rng1 (consM (getM 0) (pureM []))) (putM 8) (asB (op2 (inD true) (getM 8) (getM 7))) (op2 addD (getM 7) (tupM (consM (getM 8) (pureM [])))) [8]))) (putM 6))
  nextM)) (enc := eT)
    (fun r g => ∃ (acc : List (List Int)) (s : Slot), g = Slw m d fo sz (dL ws) k (dL acc) s ct ∧ acc ++ nextW m r = nextW m ws ∧ ∀ w ∈ r, w.length ≤ 1000) (fun w r g hI => by
      obtain ⟨acc, s, rfl, hi, hr⟩ := hI
      have hw := hr w List.mem_cons_self
      rw [next_cons, ← List.append_assoc] at hi
      refine ⟨Slw m d fo sz (dL ws) k (dL (acc ++ (((rngI 0 m).filter fun x => !w.contains x).map fun x => w ++ [x]))) (.dat (eT w)) ct, ?_, _, _, rfl, hi, fun u hu => hr u (List.mem_cons_of_mem _ hu)⟩
      let S : Sg := Slw m d fo sz (dL ws) k (dL acc) (.dat (eT w)) ct
      refine ev_go (g1 := S) rfl (ev_next (ev_asg (g1 := S) (d := .list ((acc ++ (((rngI 0 m).filter fun x => !w.contains x).map fun x => w ++ [x])).map eT)) (ev_op2 (g1 := S) (g2 := S) (x := .list (acc.map eT)) (y := .list ((((rngI 0 m).filter fun x => !w.contains x).map fun x => w ++ [x]).map eT)) rfl (ev_lst ?_) ?_) rfl) rfl)
      · rw [List.map_map]
        refine lcT (g1 := S) PyData.int (rngI 0 m) (fun x => !w.contains x) (fun x => eT (w ++ [x])) (ev_srcA (ds := [.int m]) rfl (rng1_i m (by omega) (by omega))) (fun x hx => ?_) (big (by rw [len_rngI]; omega))
        let S3 : Sg := ⟨[.dat (.int m), .dat (.int d), .dat (.list (fo.map eT)), sz, dL ws, k, dL acc, .dat (eT w), .dat (.int x)], ct⟩
        refine ⟨S3, S3, rfl, ev_asB (ev_op2 (g2 := S3) rfl rfl ((in_T true x w).trans (by rw [Bool.true_bne]))), fun _ => rfl, fun _ => ⟨S3, ?_, rfl⟩⟩
        exact ev_op2 (g1 := S3) (g2 := S3) (x := eT w) (y := eT [x]) rfl (ev_tup (ds := [.int x]) rfl (big (n := 1) (by decide))) (add_T (big (by simp; omega)))
      · rw [List.map_append]
        refine add_L (big ?_)
        have : (acc ++ (((rngI 0 m).filter fun x => !w.contains x).map fun x => w ++ [x])).length ≤ (nextW m ws).length := by rw [← hi, List.length_append (bs := nextW m r)]; exact Nat.le_add_right _ _
        rw [List.length_append] at this
        rw [List.length_map, List.length_map]
        omega) ws (Slw m d fo sz (dL ws) k (dL []) rw ct) ⟨[], rw, rfl, rfl, h2⟩
  have hi : acc = nextW m ws := by simpa [nextW] using hi
  subst hi
  rw [hg] at hf
  exact ⟨s, ev_for (xs := ws.map eT) (g1 := Slw m d fo sz (dL ws) k (dL []) rw ct) rfl hf⟩
theorem lwords_mid (m d : Int) (fo : List (List Int)) (k lo rw : Slot) (ct : Int) (h : Case m d) (n : Nat) (hn : (n : Int) ≤ d + 1) :
    ∃ s1 s2 s3, (forS (srcA rng1 (consM (op2 subD (getM 3) (pureM (.int 1))) (pureM []))) (putM 5)
  (seqM (asgM (lstM (guardL (pureM []))) (putM 6))
  (seqM (forS (srcM (getM 4)) (putM 7)
  (seqM (asgM (op2 addD (getM 6) (lstM (lcM (srcA rng1 (consM (getM 0) (pureM []))) (putM 8) (asB (op2 (inD true) (getM 8) (getM 7))) (op2 addD (getM 7) (tupM (consM (getM 8) (pureM [])))) [8]))) (putM 6))
  nextM))
  (seqM (asgM (getM 6) (putM 4))
  nextM)))) (Slw m d fo (.dat (.int ((n : Nat) + 1))) (dL (rowsN m 0)) k lo rw ct) = .ok .next (Slw m d fo (.dat (.int ((n : Nat) + 1))) (dL (rowsN m n)) s1 s2 s3 ct) := by
  obtain ⟨b1, b2, b3, b4⟩ := h.bounds
  obtain ⟨g', hf, i, s1, s2, s3, hg, hi⟩ := forM_rel (k := putM 5) (body := (seqM (asgM (lstM (guardL (pureM []))) (putM 6))
  (seqM (forS (srcM (getM 4)) (putM 7)
  (seqM (asgM (op2 addD (getM 6) (lstM (lcM (srcA rng1 (consM (getM 0) (pureM []))) (putM 8) (asB (op2 (inD true) (getM 8) (getM 7))) (op2 addD (getM 7) (tupM (consM (getM 8) (pureM [])))) [8]))) (putM 6))
  nextM))
  (seqM (asgM (getM 6) (putM 4))
  nextM)))) (enc := PyData.int)
    (fun r g => ∃ (i : Nat) (s1 s2 s3 : Slot), g = Slw m d fo (.dat (.int ((n : Nat) + 1))) (dL (rowsN m i)) s1 s2 s3 ct ∧ i + r.length = n) (fun x r g hI => by
      obtain ⟨i, s1, s2, s3, rfl, hi⟩ := hI
      rw [List.length_cons] at hi
      have hfac := rows_facts h (n := i) (by omega)
      obtain ⟨s, hin⟩ := lwords_in m d fo (.dat (.int ((n : Nat) + 1))) (.dat (.int x)) s3 ct (by omega) b2 (rowsN m i) (by omega) (fun w hw => by have := hfac.2.2 w hw; omega)
      refine ⟨Slw m d fo (.dat (.int ((n : Nat) + 1))) (dL (rowsN m (i + 1))) (.dat (.int x)) (dL (rowsN m (i + 1))) s ct, ?_, i + 1, _, _, _, rfl, by omega⟩
      exact ev_go (g1 := Slw m d fo (.dat (.int ((n : Nat) + 1))) (dL (rowsN m i)) (.dat (.int x)) s2 s3 ct) rfl (ev_next (g1 := Slw m d fo (.dat (.int ((n : Nat) + 1))) (dL (rowsN m i)) (.dat (.int x)) (dL []) s3 ct) rfl (ev_next hin rfl))) (rngI 0 (n : Nat)) (Slw m d fo (.dat (.int ((n : Nat) + 1))) (dL (rowsN m 0)) k lo rw ct) ⟨0, _, _, _, rfl, by rw [len_rngI]; omega⟩
  obtain rfl : i = n := by simpa using hi
  rw [hg] at hf
  refine ⟨s1, s2, s3, ev_for (g1 := Slw m d fo (.dat (.int ((i : Nat) + 1))) (dL (rowsN m 0)) k lo rw ct) (ev_srcA (ds := [.int (i : Nat)]) (ev_cons (g1 := Slw m d fo (.dat (.int ((i : Nat) + 1))) (dL (rowsN m 0)) k lo rw ct) (ev_op2 (g1 := Slw m d fo (.dat (.int ((i : Nat) + 1))) (dL (rowsN m 0)) k lo rw ct) (g2 := Slw m d fo (.dat (.int ((i : Nat) + 1))) (dL (rowsN m 0)) k lo rw ct) (x := .int ((i : Nat) + 1)) (y := .int 1) rfl rfl ?_) rfl) (rng1_i i (by omega) (by omega))) hf⟩
  show some (PyData.int (((i : Nat) : Int) + 1 - 1)) = _
  rw [Int.add_sub_cancel]
theorem lwords_tells (ns : List Int) (m d ct : Int) (h : Case m d) : Tells h_L_words ns [.dat (.int m), .dat (.int d)] ct (.list ((W m d).map eT)) ct := by
  obtain ⟨b1, b2, b3, b4⟩ := h.bounds
  obtain ⟨g', hf, i, s1, s2, s3, s4, s5, hg, hi, hi2⟩ := forM_rel (k := putM 3) (body := (seqM (asgM (lstM (guardL (consM (tupM (consM (pureM (.int 0)) (pureM []))) (pureM [])))) (putM 4))
  (seqM (forS (srcA rng1 (consM (op2 subD (getM 3) (pureM (.int 1))) (pureM []))) (putM 5)
  (seqM (asgM (lstM (guardL (pureM []))) (putM 6))
  (seqM (forS (srcM (getM 4)) (putM 7)
  (seqM (asgM (op2 addD (getM 6) (lstM (lcM (srcA rng1 (consM (getM 0) (pureM []))) (putM 8) (asB (op2 (inD true) (getM 8) (getM 7))) (op2 addD (getM 7) (tupM (consM (getM 8) (pureM [])))) [8]))) (putM 6))
  nextM))
  (seqM (asgM (getM 6) (putM 4))
  nextM))))
  (seqM (asgM (op2 addD (getM 2) (getM 4)) (putM 2))
  nextM)))) (enc := PyData.int)
    (fun r g => ∃ (i : Nat) (s1 s2 s3 s4 s5 : Slot), g = Slw m d (WW m i) s1 s2 s3 s4 s5 ct ∧ r = rngI ((i : Nat) + 2) (d + 3) ∧ (i : Int) ≤ d + 1) (fun x r g hI => by
      obtain ⟨i, s1, s2, s3, s4, s5, rfl, hr, hi⟩ := hI
      obtain ⟨rfl, h2, hr⟩ := rngI_inv hr
      have hfac := rows_facts h (n := i + 1) (by omega)
      have hfac0 := rows_facts h (n := i) (by omega)
      obtain ⟨t1, t2, t3, hmid⟩ := lwords_mid m d (WW m i) s3 s4 s5 ct h (i + 1) (by omega)
      have ex : ((i : Nat) : Int) + 2 = ((i + 1 : Nat) : Int) + 1 := by omega
      rw [ex]
      refine ⟨Slw m d (WW m (i + 1)) (.dat (.int ((i + 1 : Nat) + 1))) (dL (rowsN m (i + 1))) t1 t2 t3 ct, ?_, i + 1, _, _, _, _, _, rfl, ?_, by omega⟩
      · refine ev_go (g1 := Slw m d (WW m i) (.dat (.int ((i + 1 : Nat) + 1))) s2 s3 s4 s5 ct) rfl (ev_next (g1 := Slw m d (WW m i) (.dat (.int ((i + 1 : Nat) + 1))) (dL (rowsN m 0)) s3 s4 s5 ct) rfl (ev_next hmid (ev_next (ev_asg (g1 := Slw m d (WW m i) (.dat (.int ((i + 1 : Nat) + 1))) (dL (rowsN m (i + 1))) t1 t2 t3 ct) (d := .list ((WW m (i + 1)).map eT)) (ev_op2 rfl rfl ?_) rfl) rfl)))
        show addD (.list ((WW m i).map eT)) (.list ((rowsN m (i + 1)).map eT)) = some (.list ((WW m i ++ rowsN m (i + 1)).map eT))
        rw [List.map_append]
        exact add_L (big (by rw [List.length_map, List.length_map]; omega))
      · rw [hr]
        exact congrArg (fun z => rngI z (d + 3)) (by omega)) (rngI 2 (d + 3)) (Slw m d (WW m 0) .no .no .no .no .no ct) ⟨0, _, _, _, _, _, rfl, rfl, by omega⟩
  have hid : i = (d + 1).toNat := by
    have : (rngI ((i : Nat) + 2) (d + 3)).length = 0 := by rw [← hi]; rfl
    rw [len_rngI] at this
    omega
  rw [W_WW h, ← hid]
  refine tells_fn (g := g') rfl ?_ |> fun z => by rw [hg] at z; exact z
  refine ev_next (g1 := Slw m d (WW m 0) .no .no .no .no .no ct) rfl (ev_next (g1 := g') (ev_for (g1 := Slw m d (WW m 0) .no .no .no .no .no ct) (ev_srcA (ds := [.int 2, .int (d + 3)]) rfl (rng2_i 2 (d + 3) (by omega) (by omega) (by omega) (by omega))) hf) (ev_stop ?_ (fun z => nomatch z)))
  rw [hg]
  exact ev_ret rfl
end K68

set_option Elab.async false
set_option linter.all false
set_option maxRecDepth 100000
set_option maxHeartbeats 4000000
namespace K68
open PySem PySem.Spec L2 DL
/-! how many unlike ones there are -/
theorem dd_all (a : Int) : ∀ xs : List Int, (∀ x ∈ xs, x = a) → xs.foldl PyProof.Rows.step_dedup [a] = [a]
  | [], _ => rfl
  | x :: r, h => by
    obtain rfl := h x List.mem_cons_self
    rw [List.foldl_cons]
    have : PyProof.Rows.step_dedup [x] x = [x] := by simp [PyProof.Rows.step_dedup]
    rw [this]
    exact dd_all x r fun y hy => h y (List.mem_cons_of_mem _ hy)
theorem dd_ge : ∀ (xs acc : List Int), acc.length ≤ (xs.foldl PyProof.Rows.step_dedup acc).length
  | [], acc => Nat.le_refl _
  | x :: r, acc => by
    rw [List.foldl_cons]
    refine Nat.le_trans ?_ (dd_ge r _)
    unfold PyProof.Rows.step_dedup
    split
    · exact Nat.le_refl _
    · rw [List.length_append]; exact Nat.le_add_right _ _
theorem dd_not (a : Int) : ∀ xs : List Int, (∃ x ∈ xs, x ≠ a) → 2 ≤ (xs.foldl PyProof.Rows.step_dedup [a]).length
  | [], ⟨_, h, _⟩ => by cases h
  | x :: r, h => by
    rw [List.foldl_cons]
    by_cases e : x = a
    · subst e
      have : PyProof.Rows.step_dedup [x] x = [x] := by simp [PyProof.Rows.step_dedup]
      rw [this]
      obtain ⟨y, hy, hn⟩ := h
      rcases List.mem_cons.mp hy with e | hy
      · exact (hn e).elim
      · exact dd_not x r ⟨y, hy, hn⟩
    · have : PyProof.Rows.step_dedup [a] x = [a, x] := by simp [PyProof.Rows.step_dedup, Ne.symm e]
      rw [this]
      exact dd_ge r [a, x]
theorem range_getD (ns : List Int) : (List.range ns.length).map (fun i => ns.getD i 0) = ns := by
  apply List.ext_getElem?
  intro i
  rw [List.getElem?_map]
  by_cases h : i < ns.length
  · rw [List.getElem?_range h, List.getElem?_eq_getElem h]
    simp [h]
  · rw [List.getElem?_eq_none (by simp; omega), List.getElem?_eq_none (by omega)]
    rfl
def allOne (ns : List Int) : Bool := ns.all fun x => x == ns.headD 0
theorem unlike_two (ns : List Int) : decide (((unlike ns : Nat) : Int) < 2) = allOne ns := by
  unfold unlike PyProof.Rows.firstMet
  rw [range_getD]
  unfold allOne
  cases ns with
  | nil => rfl
  | cons a r =>
    have e : (a :: r).foldl PyProof.Rows.step_dedup [] = r.foldl PyProof.Rows.step_dedup [a] := by rw [List.foldl_cons]; rfl
    rw [e]
    by_cases h : ∀ x ∈ r, x = a
    · rw [dd_all a r h]
      have : ((a :: r).all fun x => x == (a :: r).headD 0) = true := by
        rw [List.all_eq_true]
        intro x hx
        rcases List.mem_cons.mp hx with e | hx
        · rw [e]; simp
        · rw [h x hx]; simp
      rw [this]
      rfl
    · have h2 : ∃ x ∈ r, x ≠ a := by
        refine Classical.byContradiction fun z => h fun x hx => Classical.byContradiction fun z2 => z ⟨x, hx, z2⟩
      have h3 := dd_not a r h2
      rw [decide_eq_false (by omega)]
      obtain ⟨x, hx, hn⟩ := h2
      refine (Bool.eq_false_iff.mpr fun z => ?_).symm
      have := List.all_eq_true.mp z x (List.mem_cons_of_mem _ hx)
      exact hn (by simpa using this)
theorem zip_loy (liars : List Int) (f : Int → Int) : ∀ (n a : Nat), (((rngI a (a + n)).map f).zipIdx a |>.filter fun p => !liars.contains ((p.2 : Nat) : Int)).map (·.1) = ((rngI a (a + n)).filter fun x => !liars.contains x).map f
  | 0, a => by rw [rngI_nil (by simp)]; rfl
  | n + 1, a => by
    rw [rngI_cons (by omega)]
    have e : ((a : Nat) : Int) + ((n + 1 : Nat) : Int) = ((a + 1 : Nat) : Int) + (n : Nat) := by omega
    have e2 : ((a : Nat) : Int) + 1 = ((a + 1 : Nat) : Int) := by omega
    rw [e, e2, List.map_cons, List.zipIdx_cons, List.filter_cons, List.filter_cons]
    have ih := zip_loy liars f n (a + 1)
    by_cases hc : (!liars.contains ((a : Nat) : Int)) = true
    · rw [if_pos hc, if_pos hc, List.map_cons, List.map_cons, ih]
    · rw [if_neg hc, if_neg hc, ih]
theorem kept_law (liars : List Int) (o m : Int) (hm : 1 ≤ m) (f : Int → Int) :
    allOne (((rngI 1 m).filter fun x => !liars.contains x).map f ++ (if liars.contains 0 = true then [] else [o])) = keptL liars o (o :: (rngI 1 m).map f) := by
  have hl : loyL liars (o :: (rngI 1 m).map f) = (if liars.contains 0 = true then [] else [o]) ++ ((rngI 1 m).filter fun x => !liars.contains x).map f := by
    unfold loyL
    rw [List.zipIdx_cons, List.filter_cons]
    have := zip_loy liars f (m - 1).toNat 1
    have e : ((1 : Nat) : Int) + ((m - 1).toNat : Int) = m := by omega
    rw [e] at this
    have this : (((rngI 1 m).map f).zipIdx (0 + 1) |>.filter fun p => !liars.contains ((p.2 : Nat) : Int)).map (·.1) = ((rngI 1 m).filter fun x => !liars.contains x).map f := this
    by_cases hc : liars.contains 0 = true
    · rw [if_neg (by rw [show (((o, 0) : Int × Nat).2 : Int) = 0 from rfl, hc]; decide), this, if_pos hc]; rfl
    · rw [if_pos (by rw [show (((o, 0) : Int × Nat).2 : Int) = 0 from rfl]; simpa using hc), List.map_cons, this, if_neg hc]; rfl
  unfold keptL allOne
  rw [hl]
  generalize ((rngI 1 m).filter fun x => !liars.contains x).map f = good
  by_cases hc : liars.contains 0 = true
  · rw [if_pos hc, hc]
    simp
  · have hc' : liars.contains 0 = false := by simpa using hc
    rw [if_neg hc, hc']
    cases good with
    | nil => simp
    | cons g gs =>
      rw [Bool.eq_iff_iff]
      simp
      constructor
      · rintro ⟨h1, h2⟩
        subst h2
        exact ⟨rfl, h1⟩
      · rintro ⟨h1, h2⟩
        subst h1
        exact ⟨h2, rfl⟩
/-! what is told, and what is known, are bits -/
def isBit (x : Int) : Prop := x = 0 ∨ x = 1
theorem lookZ_bit {ps : List (List Int × Int)} (h : ∀ p ∈ ps, isBit p.2) (w : List Int) : isBit (lookZ ps w) := by
  unfold lookZ look
  cases e : ps.find? fun p => p.1 == w with
  | none => exact .inl rfl
  | some q => exact h q (List.mem_of_find?_eq_some e)
theorem toldL_bit (ly : List Int → Bool) : ∀ (ws : List (List Int)) (ls : List Int) (acc : List (List Int × Int)), (∀ x ∈ ls, isBit x) → (∀ p ∈ acc, isBit p.2) → ∀ p ∈ toldL ly ws ls acc, isBit p.2
  | [], _, _, _, h2 => h2
  | w :: r, ls, acc, h1, h2 => by
    unfold toldL
    split
    · refine toldL_bit ly r _ _ (fun x hx => h1 x (List.mem_of_mem_tail hx)) fun p hp => ?_
      rcases List.mem_append.mp hp with hp | hp
      · exact h2 p hp
      · obtain rfl := List.mem_singleton.mp hp
        cases ls with
        | nil => exact .inl rfl
        | cons x r => exact h1 x List.mem_cons_self
    · refine toldL_bit ly r _ _ h1 fun p hp => ?_
      rcases List.mem_append.mp hp with hp | hp
      · exact h2 p hp
      · obtain rfl := List.mem_singleton.mp hp
        exact lookZ_bit h2 _
theorem A_bit {m d : Int} {liars : List Int} {o : Int} {lies : List Int} (ho : isBit o) (hl : ∀ x ∈ lies, isBit x) (w : List Int) : isBit (lookZ (A m d liars o lies) w) :=
  lookZ_bit (toldL_bit _ _ _ _ hl fun p hp => by obtain rfl := List.mem_singleton.mp hp; exact ho) w
theorem setL_bit (m : Int) (a : List (List Int × Int)) (ha : ∀ w, isBit (lookZ a w)) (k : Nat) (p : List Int) (j : Int) : isBit (setL m a k p j) := by
  cases k with
  | zero => exact ha _
  | succ k =>
    unfold setL most
    split
    · exact .inr rfl
    · exact .inl rfl
theorem sum_count : ∀ v : List Int, (∀ x ∈ v, isBit x) → v.sum = (v.count 1 : Nat)
  | [], _ => rfl
  | x :: r, h => by
    rw [List.sum_cons, sum_count r fun y hy => h y (List.mem_cons_of_mem _ hy), List.count_cons]
    rcases h x List.mem_cons_self with e | e
    · subst e; simp
    · subst e; simp; omega
theorem most_one {x : Int} (h : isBit x) : most [x] = x := by
  rcases h with e | e <;> (subst e; rfl)
end K68

set_option Elab.async false
set_option linter.all false
set_option maxRecDepth 100000
set_option maxHeartbeats 4000000
namespace K68
open PySem PySem.Spec L2 DL
theorem ev_pop0 {i : Nat} {f : M D} {g g1 : Sg} {ys xs : List D} {x : D} (h0 : g.sl[i]? = some (.own ys)) (hf : f g = .ok (.int 0) g1) (h : g1.sl[i]? = some (.own (x :: xs))) : popM i f g = .ok x { g1 with sl := g1.sl.set i (.own xs) } := by
  unfold popM
  simp only [h0]
  refine ev_bind hf ?_
  simp only [h]
  rw [if_pos (by omega)]
  have e : seqIndex? 0 (x :: xs).length = some 0 := by
    unfold seqIndex?
    simp
  rw [e]
  rfl
def Sa (m d : Int) (liars : List Int) (o : Int) (lies : List Int) (ls : List Int) (k7 : List (List Key × D)) (s8 : Slot) (ct : Int) : Sg := ⟨[dL (W m d), .dat (.int m), .dat (.int d), .dat (eT liars), .dat (.int o), .dat (eT lies), .own (ls.map PyData.int), .ownT k7, s8, .no, .no, .no, .no, .no], ct⟩
structure AgrI (m d : Int) (liars : List Int) (o : Int) (lies : List Int) (ct : Int) (r : List (List Int)) (g : Sg) : Prop where
  ex : ∃ (k7 : List (List Key × D)) (ps : List (List Int × Int)) (ls : List Int) (s : Slot), g = Sa m d liars o lies ls k7 s ct ∧ DicOf k7 ps ∧ prefOk (ps.map (·.1)) r = true ∧ toldL (lyW liars) r ls ps = A m d liars o lies ∧ k7.length + r.length ≤ 200 ∧
    (r.filter (lyW liars)).length = ls.length ∧ ∀ w ∈ r, 2 ≤ w.length
theorem agr_step (m d : Int) (liars : List Int) (o : Int) (lies : List Int) (ct : Int) (w : List Int) (r : List (List Int)) (g : Sg) (h : AgrI m d liars o lies ct (w :: r) g) :
    ∃ g', goG (putM 8 (eT w)) (seqM (ifM (asB (op2 (inD false) (op2 ixD (getM 8) (op1 negD (pureM (.int 2)))) (getM 3)))
  (seqM (dputM 7 (getM 8) (popM 6 (pureM (.int 0))))
  nextM)
  (seqM (dputM 7 (getM 8) (dgetV 7 (sliceM (getM 8) (pureM none) (partM (op1 negD (pureM (.int 1)))))))
  nextM))
  nextM) g = .ok .next g' ∧ AgrI m d liars o lies ct r g' := by
  obtain ⟨k7, ps, ls, s, rfl, hd, hp, ht, hz, hc, hl⟩ := h.ex
  have hp' := hp
  unfold prefOk at hp'
  simp only [Bool.and_eq_true] at hp'
  have hin : ini w ∈ ps.map (·.1) := by simpa using hp'.1.1
  have hnew : look ps w = none := look_none.mpr (by simpa using hp'.1.2)
  have hini : valD k7 (kT (ini w)) = some (.int (lookZ ps (ini w))) := by rw [hd (ini w), look_some hin]; rfl
  rw [List.length_cons] at hz
  have keys : ∀ v : Int, prefOk ((ps ++ [(w, v)]).map (·.1)) r = true := fun v => by
    rw [List.map_append]
    exact hp'.2
  have hw2 := hl w List.mem_cons_self
  let S : Sg := Sa m d liars o lies ls k7 (.dat (eT w)) ct
  have hcond : (asB (op2 (inD false) (op2 ixD (getM 8) (op1 negD (pureM (.int 2)))) (getM 3))) S = .ok (lyW liars w) S := by
    refine ev_asB (ev_op2 (g1 := S) (ev_op2 (g1 := S) rfl rfl (ix_pen hw2)) rfl ((in_T false _ liars).trans ?_))
    rw [Bool.false_bne]
    rfl
  by_cases hw : lyW liars w = true
  · rw [List.filter_cons_of_pos hw, List.length_cons] at hc
    cases ls with
    | nil => cases hc
    | cons v ls =>
      have e1 : (dputM 7 (getM 8) (popM 6 (pureM (.int 0)))) S = .ok .next (Sa m d liars o lies ls (putD k7 (kT w) (.int v)) (.dat (eT w)) ct) :=
        ev_dputT (i := 7) (fk := getM 8) (w := w) (v := .int v) (g1 := Sa m d liars o lies ls k7 (.dat (eT w)) ct) (g2 := Sa m d liars o lies ls k7 (.dat (eT w)) ct) (kvs := k7) (ev_pop0 (ys := (v :: ls).map PyData.int) (xs := ls.map PyData.int) (x := .int v) (g1 := S) rfl rfl rfl) rfl rfl rfl (small _ (by omega))
      rw [hw] at hcond
      refine ⟨Sa m d liars o lies ls (putD k7 (kT w) (.int v)) (.dat (eT w)) ct, ?_, ⟨_, ps ++ [(w, v)], ls, _, rfl, hd.put w v hnew, keys v, ?_, ?_, Nat.succ.inj hc, fun u hu => hl u (List.mem_cons_of_mem _ hu)⟩⟩
      · exact ev_go (g1 := S) rfl (ev_next (ev_ifT hcond (ev_next e1 rfl)) rfl)
      · rw [← ht]
        conv => rhs; unfold toldL
        rw [if_pos hw]
        rfl
      · have := len_put k7 (kT w) (.int v)
        omega
  · have hwf : lyW liars w = false := by simpa using hw
    rw [List.filter_cons_of_neg hw] at hc
    have e0 : (sliceM (getM 8) (pureM none) (partM (op1 negD (pureM (.int 1))))) S = .ok (eT (ini w)) S :=
      ev_bind rfl (ev_bind rfl (ev_bind (a := some (-1)) (g1 := S) rfl (by rw [cut_ini (by omega)]; rfl)))
    have e1 : (dputM 7 (getM 8) (dgetV 7 (sliceM (getM 8) (pureM none) (partM (op1 negD (pureM (.int 1))))))) S = .ok .next (Sa m d liars o lies ls (putD k7 (kT w) (.int (lookZ ps (ini w)))) (.dat (eT w)) ct) :=
      ev_dputT (i := 7) (fk := getM 8) (w := w) (v := .int (lookZ ps (ini w))) (g1 := S) (g2 := S) (kvs := k7) (ev_dgetV rfl e0 ((findV_T rfl (ini w)).trans (by rw [hini]))) rfl rfl rfl (small _ (by omega))
    rw [hwf] at hcond
    refine ⟨Sa m d liars o lies ls (putD k7 (kT w) (.int (lookZ ps (ini w)))) (.dat (eT w)) ct, ?_, ⟨_, ps ++ [(w, lookZ ps (ini w))], ls, _, rfl, hd.put w _ hnew, keys _, ?_, ?_, hc, fun u hu => hl u (List.mem_cons_of_mem _ hu)⟩⟩
    · exact ev_go (g1 := S) rfl (ev_next (ev_ifF hcond (ev_next e1 rfl)) rfl)
    · rw [← ht]
      conv => rhs; unfold toldL
      rw [if_neg hw]
    · have := len_put k7 (kT w) (.int (lookZ ps (ini w)))
      omega
/-! from the longest words back -/
def childOk (m d : Int) (acc : List (List Int)) : List (List Int) → Bool
  | [] => true
  | w :: r => (decide (d.toNat + 2 ≤ w.length) || (rngI 0 m).all fun x => w.contains x || acc.contains ((ini w ++ [x]) ++ [lst w])) && !acc.contains w && childOk m d (acc ++ [w]) r
theorem W_childRev {m d : Int} (h : Case m d) : childOk m d [] (W m d).reverse = true := by
  have : ∀ p ∈ cs, childOk p.1 p.2 [] (W p.1 p.2).reverse = true := by decide +kernel
  exact this (m, d) h
def KS (m d : Int) (a : List (List Int × Int)) (w : List Int) : Int := setL m a (d.toNat + 2 - w.length) (ini w) (lst w)
def kps (m d : Int) (a : List (List Int × Int)) (ws : List (List Int)) : List (List Int × Int) := ws.map fun w => (w, KS m d a w)
theorem kps_keys (m d : Int) (a : List (List Int × Int)) (ws : List (List Int)) : (kps m d a ws).map (·.1) = ws := by
  unfold kps
  rw [List.map_map]
  exact (List.map_congr_left fun _ _ => rfl).trans (List.map_id ws)
theorem kps_look (m d : Int) (a : List (List Int × Int)) (ws : List (List Int)) (w : List Int) (h : w ∈ ws) : look (kps m d a ws) w = some (KS m d a w) := by
  unfold look kps
  rw [List.find?_map]
  have : ws.find? ((fun p : List Int × Int => p.1 == w) ∘ fun w => (w, KS m d a w)) = some w := by
    have hf : ((fun p : List Int × Int => p.1 == w) ∘ fun w => (w, KS m d a w)) = fun u => u == w := rfl
    rw [hf]
    induction ws with
    | nil => cases h
    | cons u r ih =>
      rw [List.find?_cons]
      by_cases e : u = w
      · subst e; simp
      · rw [beq_false_of_ne e]
        rcases List.mem_cons.mp h with e2 | h
        · exact (e e2.symm).elim
        · exact ih h
  rw [this]
  rfl
def vsL (m d : Int) (a : List (List Int × Int)) (w : List Int) : List Int := lookZ a w :: ((rngI 0 m).filter fun x => !w.contains x && decide (w.length < d.toNat + 2)).map fun x => KS m d a ((ini w ++ [x]) ++ [lst w])
theorem KS_eq (m d : Int) (a : List (List Int × Int)) (ha : ∀ w, isBit (lookZ a w)) (w : List Int) (h1 : 1 ≤ w.length) (h2 : w.length ≤ d.toNat + 2) : KS m d a w = if ((vsL m d a w).length : Int) < 2 * ((vsL m d a w).count 1 : Nat) then 1 else 0 := by
  have hb : ∀ x ∈ vsL m d a w, isBit x := by
    intro x hx
    rcases List.mem_cons.mp hx with rfl | hx
    · exact ha w
    · obtain ⟨y, _, rfl⟩ := List.mem_map.mp hx
      exact setL_bit m a ha _ _ _
  have hm : (if ((vsL m d a w).length : Int) < 2 * ((vsL m d a w).count 1 : Nat) then (1 : Int) else 0) = most (vsL m d a w) := by
    unfold most
    rw [sum_count _ hb]
  rw [hm]
  have hw := ini_lst h1
  unfold KS
  by_cases h3 : w.length = d.toNat + 2
  · have e0 : d.toNat + 2 - w.length = 0 := by omega
    have ev : vsL m d a w = [lookZ a w] := by
      unfold vsL
      have : (rngI 0 m).filter (fun x => !w.contains x && decide (w.length < d.toNat + 2)) = [] := by
        rw [List.filter_eq_nil_iff]
        intro x _
        rw [decide_eq_false (by omega)]
        simp
      rw [this]
      rfl
    rw [e0, ev, most_one (ha w)]
    show lookZ a (ini w ++ [lst w]) = _
    rw [hw]
  · obtain ⟨k, hk⟩ : ∃ k, d.toNat + 2 - w.length = k + 1 := ⟨d.toNat + 2 - w.length - 1, by omega⟩
    rw [hk]
    show most (lookZ a (ini w ++ [lst w]) :: ((rngI 0 m).filter fun x => !(ini w).contains x && x != lst w).map fun x => setL m a k (ini w ++ [x]) (lst w)) = _
    rw [hw]
    congr 1
    unfold vsL
    congr 1
    have hfil : ((rngI 0 m).filter fun x => !(ini w).contains x && x != lst w) = (rngI 0 m).filter fun x => !w.contains x && decide (w.length < d.toNat + 2) := by
      apply List.filter_congr
      intro x _
      rw [decide_eq_true (by omega), Bool.and_true]
      conv => rhs; rw [← hw]
      rw [List.contains_eq_any_beq, List.contains_eq_any_beq, List.any_append]
      simp [bne]
    rw [hfil]
    apply List.map_congr_left
    intro x _
    unfold KS
    have hlen : (ini w ++ [x] ++ [lst w]).length = w.length + 1 := by
      rw [List.length_append, List.length_append]
      have := congrArg List.length hw
      rw [List.length_append] at this
      simp at this ⊢
      omega
    rw [hlen, ini_app, lst_app]
    congr 1
    omega
end K68

set_option Elab.async false
set_option linter.all false
set_option maxRecDepth 100000
set_option maxHeartbeats 4000000
namespace K68
open PySem PySem.Spec L2 DL
def Sk (m d : Int) (liars : List Int) (o : Int) (lies : List Int) (ls : List D) (k7 : List (List Key × D)) (s8 : Slot) (kn : List (List Key × D)) (s10 : Slot) (ct : Int) : Sg := ⟨[dL (W m d), .dat (.int m), .dat (.int d), .dat (eT liars), .dat (.int o), .dat (eT lies), .own ls, .ownT k7, s8, .ownT kn, s10, .no, .no, .no], ct⟩
abbrev kBody : M Fl := (seqM (asgM (op2 addD (lstM (guardL (consM (dgetV 7 (getM 8)) (pureM [])))) (lstM (lcM (srcA rng1 (consM (getM 1) (pureM []))) (putM 12) (andM (asB (op2 (inD true) (getM 12) (getM 8))) (asB (op2 ltD (opN lenD (consM (getM 8) (pureM []))) (op2 addD (getM 2) (pureM (.int 2)))))) (dgetV 9 (op2 addD (sliceM (getM 8) (pureM none) (partM (op1 negD (pureM (.int 1))))) (tupM (consM (getM 12) (consM (op2 ixD (getM 8) (op1 negD (pureM (.int 1)))) (pureM [])))))) [12]))) (putM 10))
  (seqM (dputM 9 (getM 8) (opN intD (consM (op2 gtD (op2 mulXD (pureM (.int 2)) (cntM (getM 10) (pureM (.int 1)))) (opN lenD (consM (getM 10) (pureM [])))) (pureM []))))
  nextM))
theorem k_turn (m d : Int) (liars : List Int) (o : Int) (lies : List Int) (ls : List D) (k7 : List (List Key × D)) (s8 : Slot) (kn : List (List Key × D)) (s10 : Slot) (ct : Int) (h : Case m d) (ho : isBit o) (hli : ∀ x ∈ lies, isBit x)
    (hk7 : DicOf k7 (A m d liars o lies)) (pre r : List (List Int)) (w : List Int) (hkn : DicOf kn (kps m d (A m d liars o lies) pre)) (hz : kn.length ≤ 1000) (hc : childOk m d pre (w :: r) = true) (hw : w ∈ W m d) :
    ∃ s, goG (putM 8 (eT w)) kBody (Sk m d liars o lies ls k7 s8 kn s10 ct) = .ok .next (Sk m d liars o lies ls k7 (.dat (eT w)) (putD kn (kT w) (.int (KS m d (A m d liars o lies) w))) s ct) := by
  obtain ⟨b1, b2, b3, b4⟩ := h.bounds
  obtain ⟨l1, l2⟩ := W_len h w hw
  let a := A m d liars o lies
  let S : Sg := Sk m d liars o lies ls k7 (.dat (eT w)) kn s10 ct
  let vs := vsL m d a w
  let S1 : Sg := Sk m d liars o lies ls k7 (.dat (eT w)) kn (.dat (.list (vs.map PyData.int))) ct
  unfold childOk at hc
  simp only [Bool.and_eq_true] at hc
  obtain ⟨⟨hch, hnew⟩, hrest⟩ := hc
  have e1 : (dgetV 7 (getM 8)) S = .ok (.int (lookZ a w)) S := ev_dgetV rfl rfl ((findV_T rfl w).trans (by rw [hk7 w, A_look hw]; rfl))
  have el : (op2 ixD (getM 8) (op1 negD (pureM (.int 1)))) S = .ok (.int (lst w)) S := ev_op2 (g1 := S) (g2 := S) (y := .int (-1)) rfl rfl (ix_lst (by omega))
  have e2 : (lcM (srcA rng1 (consM (getM 1) (pureM []))) (putM 12) (andM (asB (op2 (inD true) (getM 12) (getM 8))) (asB (op2 ltD (opN lenD (consM (getM 8) (pureM []))) (op2 addD (getM 2) (pureM (.int 2)))))) (dgetV 9 (op2 addD (sliceM (getM 8) (pureM none) (partM (op1 negD (pureM (.int 1))))) (tupM (consM (getM 12) (consM (op2 ixD (getM 8) (op1 negD (pureM (.int 1)))) (pureM [])))))) [12]) S = .ok ((((rngI 0 m).filter fun x => !w.contains x && decide (w.length < d.toNat + 2)).map fun x => KS m d a ((ini w ++ [x]) ++ [lst w])).map PyData.int) S := by
    rw [List.map_map]
    refine lcT (g1 := S) PyData.int (rngI 0 m) (fun x => !w.contains x && decide (w.length < d.toNat + 2)) (fun x => PyData.int (KS m d a ((ini w ++ [x]) ++ [lst w]))) (ev_srcA (ds := [.int m]) rfl (rng1_i m (by omega) (by omega))) (fun x hx => ?_) (big (by rw [len_rngI]; omega))
    let S3 : Sg := ⟨[dL (W m d), .dat (.int m), .dat (.int d), .dat (eT liars), .dat (.int o), .dat (eT lies), .own ls, .ownT k7, .dat (eT w), .ownT kn, s10, .no, .dat (.int x), .no], ct⟩
    have c1 : (asB (op2 (inD true) (getM 12) (getM 8))) S3 = .ok (!w.contains x) S3 := ev_asB (ev_op2 (g2 := S3) rfl rfl ((in_T true x w).trans (by rw [Bool.true_bne])))
    have c2 : (asB (op2 ltD (opN lenD (consM (getM 8) (pureM []))) (op2 addD (getM 2) (pureM (.int 2))))) S3 = .ok (decide (w.length < d.toNat + 2)) S3 := by
      refine ev_asB (ev_op2 (g1 := S3) (g2 := S3) (x := .int (w.length : Nat)) (y := .int (d + 2)) (ev_opN (xs := [eT w]) rfl ?_) rfl ?_)
      · show some (PyData.int ((w.map PyData.int).length : Nat)) = _
        rw [List.length_map]
      · show some (PyData.bool (decide (((w.length : Nat) : Int) < d + 2))) = _
        rw [decide_eq_decide.mpr (show (((w.length : Nat) : Int) < d + 2) ↔ w.length < d.toNat + 2 by omega)]
    refine ⟨S3, S3, rfl, ?_, fun _ => rfl, fun hp => ⟨S3, ?_, rfl⟩⟩
    · cases hcx : !w.contains x with
      | false =>
        rw [hcx] at c1
        rw [Bool.false_and]
        exact ev_andF c1
      | true =>
        rw [hcx] at c1
        rw [Bool.true_and]
        exact ev_andT c1 c2
    · rw [Bool.and_eq_true] at hp
      have hlt := of_decide_eq_true hp.2
      have hin : ((ini w ++ [x]) ++ [lst w]) ∈ pre := by
        rcases Bool.or_eq_true _ _ ▸ hch with hd | hd
        · have := of_decide_eq_true hd
          omega
        · have := List.all_eq_true.mp hd x hx
          have hnc : w.contains x = false := by simpa using hp.1
          rw [hnc, Bool.false_or] at this
          exact List.contains_iff_mem.mp this
      have el3 : (op2 ixD (getM 8) (op1 negD (pureM (.int 1)))) S3 = .ok (.int (lst w)) S3 := ev_op2 (g1 := S3) (g2 := S3) (y := .int (-1)) rfl rfl (ix_lst (by omega))
      have e0 : (sliceM (getM 8) (pureM none) (partM (op1 negD (pureM (.int 1))))) S3 = .ok (eT (ini w)) S3 :=
        ev_bind rfl (ev_bind rfl (ev_bind (a := some (-1)) (g1 := S3) rfl (by rw [cut_ini (by omega)]; rfl)))
      have ek : (op2 addD (sliceM (getM 8) (pureM none) (partM (op1 negD (pureM (.int 1))))) (tupM (consM (getM 12) (consM (op2 ixD (getM 8) (op1 negD (pureM (.int 1)))) (pureM []))))) S3 = .ok (eT ((ini w ++ [x]) ++ [lst w])) S3 := by
        rw [List.append_assoc]
        refine ev_op2 (g1 := S3) (g2 := S3) (x := eT (ini w)) (y := eT [x, lst w]) e0 (ev_tup (ds := [.int x, .int (lst w)]) (ev_cons (g1 := S3) rfl (ev_cons (g1 := S3) el3 rfl)) (big (n := 2) (by decide))) (add_T (big ?_))
        have : (ini w).length ≤ w.length := by unfold ini; rw [List.length_take]; omega
        simp
        omega
      exact ev_dgetV rfl ek ((findV_T rfl _).trans (by rw [hkn _, kps_look m d a pre _ hin]; rfl))
  have e3 : (asgM (op2 addD (lstM (guardL (consM (dgetV 7 (getM 8)) (pureM [])))) (lstM (lcM (srcA rng1 (consM (getM 1) (pureM []))) (putM 12) (andM (asB (op2 (inD true) (getM 12) (getM 8))) (asB (op2 ltD (opN lenD (consM (getM 8) (pureM []))) (op2 addD (getM 2) (pureM (.int 2)))))) (dgetV 9 (op2 addD (sliceM (getM 8) (pureM none) (partM (op1 negD (pureM (.int 1))))) (tupM (consM (getM 12) (consM (op2 ixD (getM 8) (op1 negD (pureM (.int 1)))) (pureM [])))))) [12]))) (putM 10)) S = .ok .next S1 := by
    refine ev_asg (g1 := S) (d := .list (vs.map PyData.int)) (ev_op2 (g1 := S) (g2 := S) (x := .list [.int (lookZ a w)]) (y := .list ((((rngI 0 m).filter fun x => !w.contains x && decide (w.length < d.toNat + 2)).map fun x => KS m d a ((ini w ++ [x]) ++ [lst w])).map PyData.int)) (ev_lst (ev_guard (ev_cons (g1 := S) e1 rfl) (big (n := 1) (by decide)))) (ev_lst e2) (add_L (big ?_))) rfl
    rw [List.length_map, List.length_map]
    have := List.length_filter_le (fun x => !w.contains x && decide (w.length < d.toNat + 2)) (rngI 0 m)
    rw [len_rngI] at this
    simp only [List.length_cons, List.length_nil]
    omega
  have ec : (cntM (getM 10) (pureM (.int 1))) S1 = .ok (.int (vs.count 1 : Nat)) S1 := by
    refine ev_bind (a := .list (vs.map PyData.int)) (g1 := S1) rfl (ev_bind (a := vs) (g1 := S1) ?_ rfl)
    show (liftO (intsD (vs.map PyData.int))) S1 = _
    rw [ints_map]
    rfl
  have em : (op2 mulXD (pureM (.int 2)) (cntM (getM 10) (pureM (.int 1)))) S1 = .ok (.int (2 * (vs.count 1 : Nat))) S1 := by
    refine ev_op2 (g1 := S1) rfl ec ?_
    show (if (smallI 2 || smallI ((vs.count 1 : Nat) : Int)) = true then some (PyData.int (2 * ((vs.count 1 : Nat) : Int))) else none) = _
    rfl
  have en : (opN lenD (consM (getM 10) (pureM []))) S1 = .ok (.int (vs.length : Nat)) S1 := by
    refine ev_opN (xs := [.list (vs.map PyData.int)]) rfl ?_
    show some (PyData.int ((vs.map PyData.int).length : Nat)) = _
    rw [List.length_map]
  have e4 : (opN intD (consM (op2 gtD (op2 mulXD (pureM (.int 2)) (cntM (getM 10) (pureM (.int 1)))) (opN lenD (consM (getM 10) (pureM [])))) (pureM []))) S1 = .ok (.int (KS m d a w)) S1 := by
    refine ev_opN (xs := [.bool (decide ((vs.length : Int) < 2 * (vs.count 1 : Nat)))]) (ev_cons (g1 := S1) (ev_op2 em en rfl) rfl) ?_
    show some (PyData.int (if decide ((vs.length : Int) < 2 * (vs.count 1 : Nat)) = true then 1 else 0)) = _
    rw [KS_eq m d a (A_bit ho hli) w (by omega) l2]
    by_cases hx : (vs.length : Int) < 2 * (vs.count 1 : Nat)
    · rw [decide_eq_true hx, if_pos rfl, if_pos hx]
    · rw [decide_eq_false hx, if_neg (by decide), if_neg hx]
  refine ⟨.dat (.list (vs.map PyData.int)), ev_go (g1 := S) rfl (ev_next e3 (ev_next (g1 := Sk m d liars o lies ls k7 (.dat (eT w)) (putD kn (kT w) (.int (KS m d a w))) (.dat (.list (vs.map PyData.int))) ct) ?_ rfl))⟩
  exact ev_dputT (i := 9) (fk := getM 8) (w := w) (v := .int (KS m d a w)) (g1 := S1) (g2 := S1) (kvs := kn) e4 rfl rfl rfl (small _ (by omega))
theorem agreed_tells (ns : List Int) (m d : Int) (liars : List Int) (o : Int) (lies : List Int) (ct : Int) (h : Case m d) (hl : lies.length = nL m d liars) (ho : isBit o) (hli : ∀ x ∈ lies, isBit x) :
    Tells h_L_agreed ns [dL (W m d), .dat (.int m), .dat (.int d), .dat (eT liars), .dat (.int o), .dat (eT lies)] ct (.bool (keptL liars o (decL m d liars o lies))) ct := by
  obtain ⟨b1, b2, b3, b4⟩ := h.bounds
  have hcnt := W_count h
  let a := A m d liars o lies
  have h0 : AgrI m d liars o lies ct (W m d) (Sa m d liars o lies lies [(kT [0], .int o)] .no ct) :=
    ⟨_, [([0], o)], lies, _, rfl, DicOf.one [0] o, W_pref h, rfl, by simp; omega, by rw [hl]; rfl, fun w hw => (W_len h w hw).1⟩
  obtain ⟨g', hf, hI⟩ := forM_rel (k := putM 8) (body := (seqM (ifM (asB (op2 (inD false) (op2 ixD (getM 8) (op1 negD (pureM (.int 2)))) (getM 3)))
  (seqM (dputM 7 (getM 8) (popM 6 (pureM (.int 0))))
  nextM)
  (seqM (dputM 7 (getM 8) (dgetV 7 (sliceM (getM 8) (pureM none) (partM (op1 negD (pureM (.int 1)))))))
  nextM))
  nextM)) (enc := eT) (AgrI m d liars o lies ct) (fun w r g hI => agr_step m d liars o lies ct w r g hI) (W m d) _ h0
  obtain ⟨k7, ps, ls, s, rfl, hd, hp, ht, hz, hc, hl2⟩ := hI.ex
  have hd : DicOf k7 a := (show ps = a from ht) ▸ hd
  obtain ⟨g2, hf2, pre, kn, s8, s10, hg2, hpre, hkn, hkz, _⟩ := forM_rel (k := putM 8) (body := kBody) (enc := eT)
    (fun r g => ∃ (pre : List (List Int)) (kn : List (List Key × D)) (s8 s10 : Slot), g = Sk m d liars o lies (ls.map PyData.int) k7 s8 kn s10 ct ∧ pre ++ r = (W m d).reverse ∧ DicOf kn (kps m d a pre) ∧ kn.length ≤ pre.length ∧ childOk m d pre r = true) (fun w r g hI => by
      obtain ⟨pre, kn, s8, s10, rfl, hpre, hkn, hkz, hch⟩ := hI
      have hw : w ∈ W m d := by
        rw [← List.mem_reverse, ← hpre]
        exact List.mem_append_right _ List.mem_cons_self
      have hpl : pre.length ≤ 100 := by
        have := congrArg List.length hpre
        rw [List.length_append, List.length_reverse] at this
        omega
      obtain ⟨s, hs⟩ := k_turn m d liars o lies (ls.map PyData.int) k7 s8 kn s10 ct h ho hli hd pre r w hkn (by omega) hch hw
      have hch' := hch
      unfold childOk at hch'
      simp only [Bool.and_eq_true] at hch'
      have hnew : look (kps m d a pre) w = none := look_none.mpr (by rw [kps_keys]; simpa using hch'.1.2)
      refine ⟨_, hs, pre ++ [w], putD kn (kT w) (.int (KS m d a w)), _, _, rfl, by rw [List.append_assoc]; exact hpre, ?_, ?_, hch'.2⟩
      · have := hkn.put w (KS m d a w) hnew
        have e : kps m d a (pre ++ [w]) = kps m d a pre ++ [(w, KS m d a w)] := by unfold kps; rw [List.map_append]; rfl
        rw [e]
        exact this
      · have := len_put kn (kT w) (.int (KS m d a w))
        rw [List.length_append]
        simp only [List.length_cons, List.length_nil]
        omega) (W m d).reverse (Sk m d liars o lies (ls.map PyData.int) k7 s [] .no ct) ⟨[], [], s, .no, rfl, rfl, DicOf.nil, Nat.le_refl _, W_childRev h⟩
  rw [List.append_nil] at hpre
  subst hpre
  subst hg2
  let f := fun j : Int => setL m a d.toNat [0] j
  let good := ((rngI 1 m).filter fun x => !liars.contains x).map f
  have hgl : good.length ≤ 5 := by
    show (((rngI 1 m).filter _).map f).length ≤ 5
    rw [List.length_map]
    refine Nat.le_trans (List.length_filter_le _ _) ?_
    rw [len_rngI]
    omega
  let S2 : Sg := Sk m d liars o lies (ls.map PyData.int) k7 s8 kn s10 ct
  let S3 : Sg := ⟨[dL (W m d), .dat (.int m), .dat (.int d), .dat (eT liars), .dat (.int o), .dat (eT lies), .own (ls.map PyData.int), .ownT k7, s8, .ownT kn, s10, .dat (.list (good.map PyData.int)), .no, .no], ct⟩
  have e5 : (asgM (lstM (lcM (srcA rng2 (consM (pureM (.int 1)) (consM (getM 1) (pureM [])))) (putM 13) (asB (op2 (inD true) (getM 13) (getM 3))) (dgetV 9 (tupM (consM (pureM (.int 0)) (consM (getM 13) (pureM []))))) [13])) (putM 11)) S2 = .ok .next S3 := by
    refine ev_asg (g1 := S2) (d := .list (good.map PyData.int)) (ev_lst ?_) rfl
    show _ = Res.ok ((((rngI 1 m).filter fun x => !liars.contains x).map f).map PyData.int) S2
    rw [List.map_map]
    refine lcT (g1 := S2) PyData.int (rngI 1 m) (fun x => !liars.contains x) (fun x => PyData.int (f x)) (ev_srcA (ds := [.int 1, .int m]) rfl (rng2_i 1 m (by omega) (by omega) (by omega) (by omega))) (fun x hx => ?_) (big (by rw [len_rngI]; omega))
    let S4 : Sg := ⟨[dL (W m d), .dat (.int m), .dat (.int d), .dat (eT liars), .dat (.int o), .dat (eT lies), .own (ls.map PyData.int), .ownT k7, s8, .ownT kn, s10, .no, .no, .dat (.int x)], ct⟩
    refine ⟨S4, S4, rfl, ev_asB (ev_op2 (g2 := S4) rfl rfl ((in_T true x liars).trans (by rw [Bool.true_bne]))), fun _ => rfl, fun _ => ⟨S4, ?_, rfl⟩⟩
    have hk : KS m d a [0, x] = f x := by
      show setL m a (d.toNat + 2 - 2) [0] x = setL m a d.toNat [0] x
      rw [Nat.add_sub_cancel]
    refine ev_dgetV rfl (ev_tup (g1 := S4) (ds := [.int 0, .int x]) rfl (big (n := 2) (by decide))) ((findV_T (g := S4) rfl [0, x]).trans ?_)
    rw [hkn [0, x], kps_look m d a _ [0, x] (List.mem_reverse.mpr (W_first h x hx)), hk]
    rfl
  have e6 : (op2 mulXD (lstM (guardL (consM (getM 4) (pureM [])))) (opN intD (consM (op2 (inD true) (pureM (.int 0)) (getM 3)) (pureM [])))) S3 = .ok (.list ((if liars.contains 0 = true then [] else [o]).map PyData.int)) S3 := by
    refine ev_op2 (g1 := S3) (g2 := S3) (x := .list [.int o]) (y := .int (if liars.contains 0 = true then 0 else 1)) (ev_lst (ev_guard (ds := [.int o]) rfl (big (n := 1) (by decide)))) (ev_opN (xs := [.bool (!liars.contains 0)]) (ev_cons (g1 := S3) (ev_op2 (g1 := S3) (g2 := S3) rfl rfl ((in_T true 0 liars).trans (by rw [Bool.true_bne]))) rfl) ?_) ?_
    · cases liars.contains 0 <;> rfl
    · cases liars.contains 0 with
      | true =>
        show (if -(2 ^ 63) ≤ (0 : Int) ∧ (0 : Int) < 2 ^ 63 ∧ 1 * 0 ≤ sizeLine then some (PyData.list []) else none) = _
        rw [if_pos ⟨by decide, by decide, big (by decide)⟩]
        rfl
      | false =>
        show (if -(2 ^ 63) ≤ (1 : Int) ∧ (1 : Int) < 2 ^ 63 ∧ 1 * 1 ≤ sizeLine then some (PyData.list [.int o]) else none) = _
        rw [if_pos ⟨by decide, by decide, big (by decide)⟩]
        rfl
  let all := good ++ (if liars.contains 0 = true then [] else [o])
  have hal : all.length < 64 := by
    show (good ++ _).length < 64
    rw [List.length_append]
    have : (if liars.contains 0 = true then ([] : List Int) else [o]).length ≤ 1 := by split <;> simp
    omega
  have e7 : (op2 ltD (op1 lenSetD (op2 addD (getM 11) (op2 mulXD (lstM (guardL (consM (getM 4) (pureM [])))) (opN intD (consM (op2 (inD true) (pureM (.int 0)) (getM 3)) (pureM [])))))) (pureM (.int 2))) S3 = .ok (.bool (keptL liars o (decL m d liars o lies))) S3 := by
    refine ev_op2 (g1 := S3) (g2 := S3) (x := .int (unlike all : Nat)) (y := .int 2) (ev_op1 (x := .list (all.map PyData.int)) (ev_op2 (g1 := S3) (x := .list (good.map PyData.int)) rfl e6 ?_) ?_) rfl ?_
    · show _ = some (PyData.list ((good ++ _).map PyData.int))
      rw [List.map_append]
      refine add_L (big ?_)
      have e1 : (good.map PyData.int).length = good.length := List.length_map _
      have e2 : ((if liars.contains 0 = true then ([] : List Int) else [o]).map PyData.int).length = (if liars.contains 0 = true then ([] : List Int) else [o]).length := List.length_map _
      have : (if liars.contains 0 = true then ([] : List Int) else [o]).length ≤ 1 := by split <;> simp
      omega
    · show (intsD (all.map PyData.int)).bind _ = _
      rw [ints_map]
      show (if all.length < 64 then some (PyData.int (unlike all : Nat)) else none) = _
      rw [if_pos hal]
    · show some (PyData.bool (decide (((unlike all : Nat) : Int) < 2))) = _
      rw [unlike_two, show allOne all = _ from kept_law liars o m b1 f]
      rfl
  refine tells_fn (g := S3) rfl ?_
  let S0 : Sg := ⟨[dL (W m d), .dat (.int m), .dat (.int d), .dat (eT liars), .dat (.int o), .dat (eT lies), .no, .no, .no, .no, .no, .no, .no, .no], ct⟩
  let S01 : Sg := ⟨[dL (W m d), .dat (.int m), .dat (.int d), .dat (eT liars), .dat (.int o), .dat (eT lies), .own (lies.map PyData.int), .no, .no, .no, .no, .no, .no, .no], ct⟩
  refine ev_next (g1 := S01) (ev_bind (a := lies.map PyData.int) (g1 := S0) rfl rfl) (ev_next (g1 := Sa m d liars o lies lies [(kT [0], .int o)] .no ct) rfl (ev_next (g1 := Sa m d liars o lies ls k7 s ct) (ev_for (xs := (W m d).map eT) (g1 := Sa m d liars o lies lies [(kT [0], .int o)] .no ct) rfl hf) (ev_next (g1 := Sk m d liars o lies (ls.map PyData.int) k7 s [] .no ct) rfl (ev_next (g1 := S2) (ev_for (xs := (W m d).reverse.map eT) (g1 := Sk m d liars o lies (ls.map PyData.int) k7 s [] .no ct) ?_ hf2) (ev_next e5 (ev_stop (ev_ret e7) (fun z => nomatch z)))))))
  refine ev_bind (a := .list ((W m d).reverse.map eT)) (g1 := Sk m d liars o lies (ls.map PyData.int) k7 s [] .no ct) (ev_op1 (x := .list ((W m d).map eT)) rfl ?_) rfl
  show some (PyData.list ((W m d).map eT).reverse) = _
  rw [List.map_reverse]
end K68

set_option Elab.async false
set_option linter.all false
set_option maxRecDepth 100000
set_option maxHeartbeats 4000000
namespace K68
open PySem PySem.Spec L2 DL
def maskW (n : Nat) (i : Int) : List Int := (rngI 0 (n : Nat)).map fun k => Builtin.bitAnd (i / 2 ^ (((n : Nat) : Int) - 1 - k).toNat) 1
theorem mask_ok : ∀ n ∈ List.range 11, (rngI 0 ((2 ^ n : Nat) : Int)).map (maskW n) = lies n := by decide +kernel
theorem findSome_comp {α β γ : Type} (xs : List α) (f : α → β) (r : β → Option γ) : (xs.map f).findSome? r = xs.findSome? fun x => r (f x) := by
  induction xs with
  | nil => rfl
  | cons x t ih =>
    rw [List.map_cons, List.findSome?_cons, List.findSome?_cons, ih]
def firstD (m d : Int) (l : List Int) : D := if 10 < nL m d l then .str "large" else eO (findL m d l)
abbrev fIn (ns : List Int) : M Fl := (seqM (asgM (opN tupleOfD (consM (lstM (lcM (srcA rng1 (consM (getM 4) (pureM []))) (putM 9) yesM (op2 bandD (op2 shrD (getM 6) (op2 subD (op2 subD (getM 4) (pureM (.int 1))) (getM 9))) (pureM (.int 1))) [9])) (pureM []))) (putM 7))
  (seqM (ifM (notM (asB (callM h_L_agreed ns (datsM (consM (getM 3) (consM (getM 0) (consM (getM 1) (consM (getM 2) (consM (getM 5) (consM (getM 7) (pureM [])))))))))))
  (seqM (retM (tupM (consM (getM 5) (consM (getM 7) (pureM [])))))
  nextM)
  nextM)
  nextM))
def Sf (m d : Int) (l : List Int) (n : Nat) (s5 s6 s7 : Slot) (ct : Int) : Sg := ⟨[.dat (.int m), .dat (.int d), .dat (eT l), dL (W m d), .dat (.int (n : Nat)), s5, s6, s7, .no, .no], ct⟩
theorem lfirst_turn (ns : List Int) (m d : Int) (l : List Int) (ct : Int) (h : Case m d) (hn : nL m d l ≤ 10) (o : Int) (ho : isBit o) (s6 s7 : Slot) (i : Int) (hi : i ∈ rngI 0 ((2 ^ nL m d l : Nat) : Int)) :
    goG (putM 6 (.int i)) (fIn ns) (Sf m d l (nL m d l) (.dat (.int o)) s6 s7 ct) = .ok (toFl ((badL m d l o (maskW (nL m d l) i)).map eR)) (Sf m d l (nL m d l) (.dat (.int o)) (.dat (.int i)) (.dat (eT (maskW (nL m d l) i))) ct) := by
  generalize hnn : nL m d l = n at *
  let w := maskW n i
  have hw : w ∈ lies n := by
    rw [← mask_ok n (List.mem_range.mpr (by omega))]
    exact List.mem_map.mpr ⟨i, hi, rfl⟩
  let S : Sg := Sf m d l n (.dat (.int o)) (.dat (.int i)) s7 ct
  let S1 : Sg := Sf m d l n (.dat (.int o)) (.dat (.int i)) (.dat (eT w)) ct
  have e1 : (asgM (opN tupleOfD (consM (lstM (lcM (srcA rng1 (consM (getM 4) (pureM []))) (putM 9) yesM (op2 bandD (op2 shrD (getM 6) (op2 subD (op2 subD (getM 4) (pureM (.int 1))) (getM 9))) (pureM (.int 1))) [9])) (pureM []))) (putM 7)) S = .ok .next S1 := by
    refine ev_asg (g1 := S) (d := eT w) (ev_opN (xs := [.list (w.map PyData.int)]) (ev_cons (g1 := S) (ev_lst ?_) rfl) rfl) rfl
    show _ = Res.ok (((rngI 0 (n : Nat)).map fun k => Builtin.bitAnd (i / 2 ^ (((n : Nat) : Int) - 1 - k).toNat) 1).map PyData.int) S
    rw [List.map_map]
    refine lcTm (g1 := S) PyData.int (rngI 0 (n : Nat)) (fun k => PyData.int (Builtin.bitAnd (i / 2 ^ (((n : Nat) : Int) - 1 - k).toNat) 1)) (ev_srcA (ds := [.int (n : Nat)]) rfl (rng1_i n (by omega) (by omega))) (fun k hk => ?_) (big (by rw [len_rngI]; omega))
    have hk := mem_rngI.mp hk
    let S3 : Sg := ⟨[.dat (.int m), .dat (.int d), .dat (eT l), dL (W m d), .dat (.int (n : Nat)), .dat (.int o), .dat (.int i), s7, .no, .dat (.int k)], ct⟩
    refine ⟨S3, S3, rfl, ev_op2 (g1 := S3) (g2 := S3) (x := .int (i / 2 ^ (((n : Nat) : Int) - 1 - k).toNat)) (y := .int 1) (ev_op2 (g1 := S3) (g2 := S3) (x := .int i) (y := .int (((n : Nat) : Int) - 1 - k)) rfl rfl ?_) rfl rfl, rfl⟩
    show (if decide (0 ≤ ((n : Nat) : Int) - 1 - k) = true then some (PyData.int _) else none) = _
    rw [decide_eq_true (by omega), if_pos rfl]
  have hag := agreed_tells ns m d l o w ct h (by rw [lies_word _ _ hw, hnn]) ho (lies_bits _ _ hw)
  have ec : (notM (asB (callM h_L_agreed ns (datsM (consM (getM 3) (consM (getM 0) (consM (getM 1) (consM (getM 2) (consM (getM 5) (consM (getM 7) (pureM []))))))))))) S1 = .ok (!keptL l o (decL m d l o w)) S1 :=
    ev_not (ev_asB (ev_call (g1 := S1) (ss := [dL (W m d), .dat (.int m), .dat (.int d), .dat (eT l), .dat (.int o), .dat (eT w)]) rfl hag))
  show _ = Res.ok (toFl ((badL m d l o w).map eR)) S1
  unfold badL
  refine ev_go (g1 := S) rfl (ev_next e1 ?_)
  cases hkp : keptL l o (decL m d l o w) with
  | true =>
    rw [hkp] at ec
    exact ev_next (ev_ifF ec rfl) rfl
  | false =>
    rw [hkp] at ec
    exact ev_stop (ev_ifT ec (ev_stop (ev_ret (ev_tup (ds := [.int o, eT w]) rfl (big (n := 2) (by decide)))) (fun z => nomatch z))) (fun z => nomatch z)
theorem lfirst_in (ns : List Int) (m d : Int) (l : List Int) (ct : Int) (h : Case m d) (hn : nL m d l ≤ 10) (o : Int) (ho : isBit o) (s6 s7 : Slot) : ∃ t6 t7, (forS (srcA rng1 (consM (op2 shlD (pureM (.int 1)) (getM 4)) (pureM []))) (putM 6) (fIn ns)) (Sf m d l (nL m d l) (.dat (.int o)) s6 s7 ct) = .ok (toFl (((lies (nL m d l)).findSome? fun w => badL m d l o w).map eR)) (Sf m d l (nL m d l) (.dat (.int o)) t6 t7 ct) := by
  let n := nL m d l
  have hp : 2 ^ n ≤ 2 ^ 10 := Nat.pow_le_pow_right (by decide) hn
  obtain ⟨g', hf, t6, t7, hg⟩ := forM_find (k := putM 6) (body := fIn ns) (enc := PyData.int) (fun i => (badL m d l o (maskW n i)).map eR) (fun g => ∃ s6 s7, g = Sf m d l n (.dat (.int o)) s6 s7 ct) (rngI 0 ((2 ^ n : Nat) : Int)) (fun i hi g hg => by
    obtain ⟨s6, s7, rfl⟩ := hg
    exact ⟨_, lfirst_turn ns m d l ct h hn o ho s6 s7 i hi, _, _, rfl⟩) (Sf m d l n (.dat (.int o)) s6 s7 ct) ⟨_, _, rfl⟩
  subst hg
  refine ⟨t6, t7, ev_for (g1 := Sf m d l n (.dat (.int o)) s6 s7 ct) (ev_srcA (ds := [.int ((2 ^ n : Nat) : Int)]) (ev_cons (g1 := Sf m d l n (.dat (.int o)) s6 s7 ct) (ev_op2 (g1 := Sf m d l n (.dat (.int o)) s6 s7 ct) (g2 := Sf m d l n (.dat (.int o)) s6 s7 ct) (x := .int 1) (y := .int (n : Nat)) rfl rfl ?_) rfl) (rng1_i _ (Int.le_trans (by decide) (Int.natCast_nonneg _)) (Int.le_trans (Int.ofNat_le.mpr hp) (by decide)))) ?_⟩
  · show (if powOk 1 (n : Nat) = true then some (PyData.int (1 * 2 ^ ((n : Nat) : Int).toNat)) else none) = _
    have hok : powOk 1 (n : Nat) = true := by
      unfold powOk
      refine decide_eq_true ⟨by omega, ?_, by decide⟩
      have : n ≤ 10 := hn
      omega
    rw [if_pos hok, Int.one_mul, Int.toNat_natCast]
    simp
  · rw [hf, findSome_map]
    have : (rngI 0 ((2 ^ n : Nat) : Int)).findSome? (fun i => badL m d l o (maskW n i)) = (lies n).findSome? fun w => badL m d l o w := by
      rw [← mask_ok n (List.mem_range.mpr (by have : n ≤ 10 := hn; omega)), findSome_comp]
    rw [this]
theorem lfirst_tells (ns : List Int) (m d : Int) (l : List Int) (ct : Int) (h : Case m d) : Tells h_L_first ns [.dat (.int m), .dat (.int d), .dat (eT l)] ct (firstD m d l) ct := by
  obtain ⟨b1, b2, b3, b4⟩ := h.bounds
  let n := nL m d l
  let S0 : Sg := ⟨[.dat (.int m), .dat (.int d), .dat (eT l), .no, .no, .no, .no, .no, .no, .no], ct⟩
  let S1 : Sg := ⟨[.dat (.int m), .dat (.int d), .dat (eT l), dL (W m d), .no, .no, .no, .no, .no, .no], ct⟩
  let S2 : Sg := Sf m d l n .no .no .no ct
  have e1 : (asgM (callM h_L_words ns (datsM (consM (getM 0) (consM (getM 1) (pureM []))))) (putM 3)) S0 = .ok .next S1 := ev_asg (ev_call (g1 := S0) rfl (lwords_tells ns m d ct h)) rfl
  have e2 : (asgM (opN lenD (consM (lstM (lcM (srcM (getM 3)) (putM 8) (asB (op2 (inD false) (op2 ixD (getM 8) (op1 negD (pureM (.int 2)))) (getM 2))) (getM 8) [8])) (pureM []))) (putM 4)) S1 = .ok .next S2 := by
    refine ev_asg (g1 := S1) (d := .int (n : Nat)) (ev_opN (xs := [.list ((L m d l).map eT)]) (ev_cons (g1 := S1) (ev_lst ?_) rfl) ?_) rfl
    · refine lcT (g1 := S1) eT (W m d) (lyW l) eT rfl (fun w hw => ?_) (big (Nat.le_trans (W_count h) (by decide)))
      let S3 : Sg := ⟨[.dat (.int m), .dat (.int d), .dat (eT l), dL (W m d), .no, .no, .no, .no, .dat (eT w), .no], ct⟩
      refine ⟨S3, S3, rfl, ev_asB (ev_op2 (g1 := S3) (g2 := S3) (ev_op2 (g1 := S3) rfl rfl (ix_pen (W_len h w hw).1)) rfl ((in_T false _ l).trans ?_)), fun _ => rfl, fun _ => ⟨S3, rfl, rfl⟩⟩
      rw [Bool.false_bne]
      rfl
    · show some (PyData.int (((L m d l).map eT).length : Nat)) = _
      rw [List.length_map]
      rfl
  by_cases hb : 10 < nL m d l
  · have e3 : (asB (op2 gtD (getM 4) (pureM (.int 10)))) S2 = .ok true S2 := by
      refine ev_asB (ev_op2 (g2 := S2) (x := .int (n : Nat)) (y := .int 10) rfl rfl ?_)
      show some (PyData.bool (decide ((10 : Int) < (n : Nat)))) = _
      rw [decide_eq_true (by have : 10 < n := hb; omega)]
    have hD : firstD m d l = .str "large" := if_pos hb
    rw [hD]
    refine tells_fn (g := S2) rfl ?_
    exact ev_next e1 (ev_next e2 (ev_stop (ev_ifT e3 (ev_stop (ev_ret rfl) (fun z => nomatch z))) (fun z => nomatch z)))
  · have hn : nL m d l ≤ 10 := by omega
    have e3 : (asB (op2 gtD (getM 4) (pureM (.int 10)))) S2 = .ok false S2 := by
      refine ev_asB (ev_op2 (g2 := S2) (x := .int (n : Nat)) (y := .int 10) rfl rfl ?_)
      show some (PyData.bool (decide ((10 : Int) < (n : Nat)))) = _
      rw [decide_eq_false (by have : n ≤ 10 := hn; omega)]
    have hD : firstD m d l = eO (findL m d l) := if_neg hb
    rw [hD]
    obtain ⟨g', hf, s5, s6, s7, hg⟩ := forM_find (k := putM 5) (body := (seqM (forS (srcA rng1 (consM (op2 shlD (pureM (.int 1)) (getM 4)) (pureM []))) (putM 6) (fIn ns)) nextM)) (enc := PyData.int) (fun o => ((lies n).findSome? fun w => badL m d l o w).map eR) (fun g => ∃ s5 s6 s7, g = Sf m d l n s5 s6 s7 ct) [0, 1] (fun o hoo g hg => by
      obtain ⟨s5, s6, s7, rfl⟩ := hg
      obtain ⟨t6, t7, hin⟩ := lfirst_in ns m d l ct h hn o (by unfold isBit; simpa using hoo) s6 s7
      refine ⟨Sf m d l n (.dat (.int o)) t6 t7 ct, ?_, _, _, _, rfl⟩
      refine ev_go (g1 := Sf m d l n (.dat (.int o)) s6 s7 ct) rfl ?_
      have hin : (forS (srcA rng1 (consM (op2 shlD (pureM (.int 1)) (getM 4)) (pureM []))) (putM 6) (fIn ns)) (Sf m d l n (.dat (.int o)) s6 s7 ct) = .ok (toFl (((lies n).findSome? fun w => badL m d l o w).map eR)) (Sf m d l n (.dat (.int o)) t6 t7 ct) := hin
      cases hq : (lies n).findSome? fun w => badL m d l o w with
      | none => rw [hq] at hin; exact ev_next hin rfl
      | some p => rw [hq] at hin; exact ev_stop hin (fun z => nomatch z)) (Sf m d l n .no .no .no ct) ⟨_, _, _, rfl⟩
    rw [findSome_map] at hf
    have eg : (guardL (consM (pureM (.int 0)) (consM (pureM (.int 1)) (pureM [])))) S2 = .ok [.int 0, .int 1] S2 := ev_guard (ds := [.int 0, .int 1]) rfl (big (n := 2) (by decide))
    have e4 : (forS (srcM (lstM (guardL (consM (pureM (.int 0)) (consM (pureM (.int 1)) (pureM [])))))) (putM 5) _) S2 = _ := ev_for (xs := ([0, 1] : List Int).map PyData.int) (g1 := S2) (ev_bind (a := .list [.int 0, .int 1]) (g1 := S2) (ev_lst eg) rfl) hf
    refine tells_fn (g := g') rfl ?_ |> fun z => by rw [hg] at z; exact z
    refine ev_next e1 (ev_next e2 (ev_next (ev_ifF e3 rfl) ?_))
    cases hq : findL m d l with
    | none =>
      unfold findL at hq
      have e4' := e4
      rw [show ([0, 1] : List Int).findSome? (fun o => (lies n).findSome? fun w => badL m d l o w) = none from hq] at e4'
      exact ev_next e4' (ev_stop (ev_ret rfl) (fun z => nomatch z))
    | some p =>
      unfold findL at hq
      have e4' := e4
      rw [show ([0, 1] : List Int).findSome? (fun o => (lies n).findSome? fun w => badL m d l o w) = some p from hq] at e4'
      exact ev_stop e4' (fun z => nomatch z)
end K68

set_option Elab.async false
set_option linter.all false
set_option maxRecDepth 100000
set_option maxHeartbeats 4000000
namespace K68
open PySem PySem.Spec L2 DL
/-! the law's sets -/
theorem top_ix (w : List Int) : ixD (.list (PyData.int (-1) :: w.map PyData.int)) (.int (-1)) = some (.int (topOf w)) := by
  by_cases h : w.length = 0
  · obtain rfl := List.length_eq_zero_iff.mp h
    exact L2.atI_last [] (PyData.int (-1))
  · have e := ini_lst (w := w) (by omega)
    have e2 : PyData.int (-1) :: w.map PyData.int = (PyData.int (-1) :: (ini w).map PyData.int) ++ [PyData.int (lst w)] := by
      conv => lhs; rw [← e]
      rw [List.map_append]
      rfl
    rw [e2]
    unfold topOf
    rw [if_neg h]
    exact L2.atI_last _ _
theorem nextS_cons (m : Int) (w : List Int) (r : List (List Int)) : nextS m (w :: r) = ((rngI (topOf w + 1) m).map fun x => w ++ [x]) ++ nextS m r := rfl
def Sls (m f : Int) (ro k lo rw : Slot) (ct : Int) : Sg := ⟨[.dat (.int m), .dat (.int f), ro, k, lo, rw, .no], ct⟩
abbrev sIn : M Fl := (seqM (asgM (op2 addD (getM 4) (lstM (lcM (srcA rng2 (consM (op2 addD (op2 ixD (op2 addD (lstM (guardL (consM (op1 negD (pureM (.int 1))) (pureM [])))) (lstM (listOfM (consM (getM 5) (pureM []))))) (op1 negD (pureM (.int 1)))) (pureM (.int 1))) (consM (getM 0) (pureM [])))) (putM 6) yesM (op2 addD (getM 5) (tupM (consM (getM 6) (pureM [])))) [6]))) (putM 4))
  nextM)
theorem lsets_in (m f : Int) (k rw : Slot) (ct : Int) (hm0 : 0 ≤ m) (hm : m ≤ 5) (ws : List (List Int)) (h1 : (nextS m ws).length ≤ 1000) (h2 : ∀ w ∈ ws, w.length ≤ 1000 ∧ -1 ≤ topOf w ∧ topOf w ≤ 5) :
    ∃ s, (forS (srcM (getM 2)) (putM 5) sIn) (Sls m f (dL ws) k (dL []) rw ct) = .ok .next (Sls m f (dL ws) k (dL (nextS m ws)) s ct) := by
  obtain ⟨g', hf, acc, s, hg, hi, _⟩ := forM_rel (k := putM 5) (body := sIn) (enc := eT)
    (fun r g => ∃ (acc : List (List Int)) (s : Slot), g = Sls m f (dL ws) k (dL acc) s ct ∧ acc ++ nextS m r = nextS m ws ∧ ∀ w ∈ r, w.length ≤ 1000 ∧ -1 ≤ topOf w ∧ topOf w ≤ 5) (fun w r g hI => by
      obtain ⟨acc, s, rfl, hi, hr⟩ := hI
      obtain ⟨hw, ht1, ht2⟩ := hr w List.mem_cons_self
      rw [nextS_cons, ← List.append_assoc] at hi
      refine ⟨Sls m f (dL ws) k (dL (acc ++ ((rngI (topOf w + 1) m).map fun x => w ++ [x]))) (.dat (eT w)) ct, ?_, _, _, rfl, hi, fun u hu => hr u (List.mem_cons_of_mem _ hu)⟩
      let S : Sg := Sls m f (dL ws) k (dL acc) (.dat (eT w)) ct
      refine ev_go (g1 := S) rfl (ev_next (ev_asg (g1 := S) (d := .list ((acc ++ ((rngI (topOf w + 1) m).map fun x => w ++ [x])).map eT)) (ev_op2 (g1 := S) (g2 := S) (x := .list (acc.map eT)) (y := .list (((rngI (topOf w + 1) m).map fun x => w ++ [x]).map eT)) rfl (ev_lst ?_) ?_) rfl) rfl)
      · have ea : (op2 addD (lstM (guardL (consM (op1 negD (pureM (.int 1))) (pureM [])))) (lstM (listOfM (consM (getM 5) (pureM []))))) S = .ok (.list (PyData.int (-1) :: w.map PyData.int)) S := by
          refine ev_op2 (g1 := S) (g2 := S) (x := .list [.int (-1)]) (y := .list (w.map PyData.int)) (ev_lst (ev_guard (ds := [.int (-1)]) rfl (big (n := 1) (by decide)))) rfl (add_L (big ?_))
          rw [List.length_map]
          simp only [List.length_cons, List.length_nil]
          omega
        rw [List.map_map]
        refine lcTm (g1 := S) PyData.int (rngI (topOf w + 1) m) (fun x => eT (w ++ [x])) (ev_srcA (ds := [.int (topOf w + 1), .int m]) (ev_cons (g1 := S) (ev_op2 (g1 := S) (g2 := S) (ev_op2 (g1 := S) (g2 := S) ea rfl (top_ix w)) rfl rfl) rfl) (rng2_i _ _ (by omega) (by omega) (by omega) (by omega))) (fun x hx => ?_) (big (by rw [len_rngI]; omega))
        let S3 : Sg := ⟨[.dat (.int m), .dat (.int f), dL ws, k, dL acc, .dat (eT w), .dat (.int x)], ct⟩
        exact ⟨S3, S3, rfl, ev_op2 (g1 := S3) (g2 := S3) (x := eT w) (y := eT [x]) rfl (ev_tup (ds := [.int x]) rfl (big (n := 1) (by decide))) (add_T (big (by simp; omega))), rfl⟩
      · rw [List.map_append]
        refine add_L (big ?_)
        have : (acc ++ ((rngI (topOf w + 1) m).map fun x => w ++ [x])).length ≤ (nextS m ws).length := by rw [← hi, List.length_append (bs := nextS m r)]; exact Nat.le_add_right _ _
        rw [List.length_append] at this
        rw [List.length_map, List.length_map (as := List.map _ _)]
        omega) ws (Sls m f (dL ws) k (dL []) rw ct) ⟨[], rw, rfl, rfl, h2⟩
  have hi : acc = nextS m ws := by simpa [nextS] using hi
  subst hi
  rw [hg] at hf
  exact ⟨s, ev_for (xs := ws.map eT) (g1 := Sls m f (dL ws) k (dL []) rw ct) rfl hf⟩
theorem lsets_tells (ns : List Int) (m d : Int) (n : Nat) (ct : Int) (h : Case m d) (hn : (n : Int) ≤ m) : Tells h_L_sets ns [.dat (.int m), .dat (.int (n : Nat))] ct (.list ((setsL m n).map eT)) ct := by
  obtain ⟨b1, b2, b3, b4⟩ := h.bounds
  obtain ⟨g', hf, i, s1, s2, s3, hg, hi⟩ := forM_rel (k := putM 3) (body := (seqM (asgM (lstM (guardL (pureM []))) (putM 4))
  (seqM (forS (srcM (getM 2)) (putM 5) sIn)
  (seqM (asgM (getM 4) (putM 2))
  nextM)))) (enc := PyData.int)
    (fun r g => ∃ (i : Nat) (s1 s2 s3 : Slot), g = Sls m (n : Nat) (dL (setsL m i)) s1 s2 s3 ct ∧ i + r.length = n) (fun x r g hI => by
      obtain ⟨i, s1, s2, s3, rfl, hi⟩ := hI
      rw [List.length_cons] at hi
      have hfac := sets_facts h (n := i) (by omega)
      have hfac1 := sets_facts h (n := i + 1) (by omega)
      obtain ⟨s, hin⟩ := lsets_in m (n : Nat) (.dat (.int x)) s3 ct (by omega) b2 (setsL m i) (by have := hfac1.1; show (setsL m (i + 1)).length ≤ 1000; omega) (fun w hw => by have := hfac.2 w hw; exact ⟨by omega, this.2.2⟩)
      refine ⟨Sls m (n : Nat) (dL (setsL m (i + 1))) (.dat (.int x)) (dL (setsL m (i + 1))) s ct, ?_, i + 1, _, _, _, rfl, by omega⟩
      exact ev_go (g1 := Sls m (n : Nat) (dL (setsL m i)) (.dat (.int x)) s2 s3 ct) rfl (ev_next (g1 := Sls m (n : Nat) (dL (setsL m i)) (.dat (.int x)) (dL []) s3 ct) rfl (ev_next hin rfl))) (rngI 0 (n : Nat)) (Sls m (n : Nat) (dL (setsL m 0)) .no .no .no ct) ⟨0, _, _, _, rfl, by rw [len_rngI]; omega⟩
  obtain rfl : i = n := by simpa using hi
  refine tells_fn (g := g') rfl ?_ |> fun z => by rw [hg] at z; exact z
  refine ev_next (g1 := Sls m (i : Nat) (dL (setsL m 0)) .no .no .no ct) rfl (ev_next (g1 := g') (ev_for (g1 := Sls m (i : Nat) (dL (setsL m 0)) .no .no .no ct) (ev_srcA (ds := [.int (i : Nat)]) rfl (rng1_i i (by omega) (by omega))) hf) (ev_stop ?_ (fun z => nomatch z)))
  rw [hg]
  exact ev_ret rfl
/-! the law's next number -/
theorem next_tells (ns : List Int) (k ct : Int) (h0 : ns ≠ []) (h1 : ns.length ≤ 4000) (hc0 : 0 ≤ ct) (hc : ct ≤ 1000) (hk : 0 < k) : ∃ v, 0 ≤ v ∧ v < k ∧ Tells h_L_next ns [.sta, .dat (.int k)] ct (.int v) (ct + 1) := by
  have hl : 0 < ns.length := List.length_pos_iff.mpr h0
  let len : Int := (ns.length : Nat)
  let t : Int := (ct + 1).fdiv len
  have hlen : 0 < len := by show 0 < ((ns.length : Nat) : Int); omega
  obtain ⟨j, hj⟩ : ∃ j : Nat, (ct + 1).fmod len = (j : Int) := ⟨((ct + 1).fmod len).toNat, (Int.toNat_of_nonneg (Int.fmod_nonneg_of_pos _ hlen)).symm⟩
  have hjl : j < ns.length := by
    have := Int.fmod_lt_of_pos (ct + 1) hlen
    rw [hj] at this
    have : (j : Int) < ((ns.length : Nat) : Int) := this
    omega
  obtain ⟨x, hx⟩ : ∃ x, ns[j]? = some x := ⟨ns[j], List.getElem?_eq_getElem hjl⟩
  let v : Int := (x + t * 389 + (ct + 1) * t * 17).fmod k
  refine ⟨v, Int.fmod_nonneg_of_pos _ hk, Int.fmod_lt_of_pos _ hk, ?_⟩
  let S1 : Sg := ⟨[.sta, .dat (.int k), .no], ct + 1⟩
  let S2 : Sg := ⟨[.sta, .dat (.int k), .dat (.int t)], ct + 1⟩
  refine tells_fn (ct := ct) (g := S2) rfl ?_
  have el1 : (opN lenD (consM (st0M 0 ns) (pureM []))) S1 = .ok (.int len) S1 := by
    refine ev_opN (xs := [.list (ns.map PyData.int)]) rfl ?_
    show some (PyData.int ((ns.map PyData.int).length : Nat)) = _
    rw [List.length_map]
  have el2 : (opN lenD (consM (st0M 0 ns) (pureM []))) S2 = .ok (.int len) S2 := by
    refine ev_opN (xs := [.list (ns.map PyData.int)]) rfl ?_
    show some (PyData.int ((ns.map PyData.int).length : Nat)) = _
    rw [List.length_map]
  have e2 : (asgM (op2 fdivD (st1M 0) (opN lenD (consM (st0M 0 ns) (pureM [])))) (putM 2)) S1 = .ok .next S2 := by
    refine ev_asg (g1 := S1) (d := .int t) (ev_op2 (g1 := S1) (g2 := S1) (x := .int (ct + 1)) rfl el1 ?_) rfl
    show (if decide (len ≠ 0 ∧ len.natAbs < 1073741824) = true then some (PyData.int t) else none) = _
    rw [decide_eq_true ⟨by omega, by show ((ns.length : Nat) : Int).natAbs < 1073741824; omega⟩, if_pos rfl]
  have e3 : (op2 modD (st1M 0) (opN lenD (consM (st0M 0 ns) (pureM [])))) S2 = .ok (.int (j : Nat)) S2 := by
    refine ev_op2 (g1 := S2) (g2 := S2) (x := .int (ct + 1)) rfl el2 ?_
    show (if decide (len ≠ 0) = true then some (PyData.int ((ct + 1).fmod len)) else none) = _
    rw [decide_eq_true (by omega), if_pos rfl, hj]
  have e4 : (op2 ixD (st0M 0 ns) (op2 modD (st1M 0) (opN lenD (consM (st0M 0 ns) (pureM []))))) S2 = .ok (.int x) S2 := by
    refine ev_op2 (g1 := S2) (g2 := S2) (x := .list (ns.map PyData.int)) rfl e3 ?_
    exact L2.atI_nat (by rw [List.getElem?_map, hx]; rfl)
  have e5 : (op2 mulXD (getM 2) (pureM (.int 389))) S2 = .ok (.int (t * 389)) S2 := by
    refine ev_op2 (g1 := S2) (g2 := S2) (x := .int t) (y := .int 389) rfl rfl ?_
    show (if (smallI t || smallI 389) = true then some (PyData.int (t * 389)) else none) = _
    rw [show smallI 389 = true by decide, Bool.or_true, if_pos rfl]
  have e6 : (op2 mulXD (op2 mulXD (st1M 0) (getM 2)) (pureM (.int 17))) S2 = .ok (.int ((ct + 1) * t * 17)) S2 := by
    refine ev_op2 (g1 := S2) (g2 := S2) (x := .int ((ct + 1) * t)) (y := .int 17) (ev_op2 (g1 := S2) (g2 := S2) (x := .int (ct + 1)) (y := .int t) rfl rfl ?_) rfl ?_
    · show (if (smallI (ct + 1) || smallI t) = true then some (PyData.int ((ct + 1) * t)) else none) = _
      rw [show smallI (ct + 1) = true from decide_eq_true ⟨by omega, by omega⟩, Bool.true_or, if_pos rfl]
    · show (if (smallI ((ct + 1) * t) || smallI 17) = true then some (PyData.int ((ct + 1) * t * 17)) else none) = _
      rw [show smallI 17 = true by decide, Bool.or_true, if_pos rfl]
  refine ev_next (g1 := S1) rfl (ev_next e2 (ev_stop (ev_ret (g1 := S2) (d := .int v) (ev_op2 (g1 := S2) (g2 := S2) (x := .int (x + t * 389 + (ct + 1) * t * 17)) (y := .int k) (ev_opN (xs := [.int (x + t * 389 + (ct + 1) * t * 17)]) (ev_cons (g1 := S2) (ev_op2 (g1 := S2) (g2 := S2) (ev_op2 (g1 := S2) (g2 := S2) e4 e5 rfl) e6 rfl) rfl) rfl) rfl ?_)) (fun z => nomatch z)))
  show (if decide (k ≠ 0) = true then some (PyData.int v) else none) = _
  rw [decide_eq_true (by omega), if_pos rfl]
/-! how the law tells -/
theorem ev_try {nm : Str → Option Str} {f : M Fl} {g g1 : Sg} {fl : Fl} (h : f g = .ok fl g1) : tryM nm f g = .ok fl g1 := by
  unfold tryM
  rw [h]
theorem ev_tryX {nm : Str → Option Str} {f : M Fl} {g : Sg} {n z : Str} {ct : Int} (h : f g = .exc n ct) (hz : nm n = some z) : tryM nm f g = .ok (.ret (.str z)) ⟨g.sl.map fun _ => .no, ct⟩ := by
  unfold tryM
  rw [h]
  show (match nm n with
    | some z => Res.ok (Fl.ret (.str z)) ⟨g.sl.map fun _ => .no, ct⟩
    | none => .bad) = _
  rw [hz]
theorem ev_tupX {f : M (List D)} {g : Sg} {n : Str} {ct : Int} (h : f g = .exc n ct) : tupM f g = .exc n ct := by
  show (f g).bind _ = _
  rw [h]
  rfl
theorem ev_consX2 {f : M D} {r : M (List D)} {g g1 : Sg} {d : D} {n : Str} {ct : Int} (h0 : f g = .ok d g1) (h : r g1 = .exc n ct) : consM f r g = .exc n ct := by
  refine ev_bind h0 ?_
  show (r g1).bind _ = _
  rw [h]
  rfl
theorem ev_pick {hs : List FnM} {h : FnM} {ns : List Int} {fi : M D} {fx : M (List Slot)} {g g1 : Sg} {i : Int} {r : Res D} (hi : fi g = .ok (.int i) g1) (hh : L2.atI hs i = some h) (hr : callM h ns fx g1 = r) : pickM hs ns fi fx g = r := by
  refine ev_bind hi (ev_bind (a := h) (g1 := g1) ?_ hr)
  show (liftO (L2.atI hs i)) g1 = _
  rw [hh]
  rfl
def tellD (v : D) : D := .tuple [.str "told", v]
theorem told0 (ns : List Int) (m d : Int) (x v : D) (ct : Int) (h : Tells h_bears ns [.dat (.int m), .dat (.int d)] ct v ct) : Tells h_L_told ns [.dat (.int 0), .dat (.int m), .dat (.int d), .dat x] ct (tellD v) ct := by
  let S : Sg := ⟨[.dat (.int 0), .dat (.int m), .dat (.int d), .dat x, .no], ct⟩
  refine tells_fn (g := S) rfl (ev_stop (ev_try (ev_stop (ev_ifT (g1 := S) rfl (ev_stop (ev_ret (ev_tup (ds := [.str "told", v]) (ev_cons (g1 := S) rfl (ev_cons (g1 := S) (ev_call (g1 := S) rfl h) rfl)) (big (n := 2) (by decide)))) (fun z => nomatch z))) (fun z => nomatch z))) (fun z => nomatch z))
theorem told0X (ns : List Int) (m d : Int) (x : D) (n z : Str) (ct : Int) (h : h_bears ns [.dat (.int m), .dat (.int d)] ct = .exc n ct) (hz : nmE n = some z) : Tells h_L_told ns [.dat (.int 0), .dat (.int m), .dat (.int d), .dat x] ct (.str z) ct := by
  let S : Sg := ⟨[.dat (.int 0), .dat (.int m), .dat (.int d), .dat x, .no], ct⟩
  exact tells_fn (g := ⟨S.sl.map fun _ => .no, ct⟩) rfl (ev_stop (ev_tryX (ev_exc (ev_ifT (g1 := S) rfl (ev_exc (ev_retX (ev_tupX (ev_consX2 (g1 := S) rfl (ev_consX (ev_callX (g1 := S) rfl h)))))))) hz) (fun z => nomatch z))
theorem toldK (ns : List Int) (k m d : Int) (x v : D) (ct : Int) (hf : FnM) (hk : 1 ≤ k) (hh : L2.atI [h_is_safe, h_first_lies, h_unsafe_sets] (k - 1) = some hf) (h : Tells hf ns [.dat (.int m), .dat (.int d), .dat x] ct v ct) : Tells h_L_told ns [.dat (.int k), .dat (.int m), .dat (.int d), .dat x] ct (tellD v) ct := by
  let S : Sg := ⟨[.dat (.int k), .dat (.int m), .dat (.int d), .dat x, .no], ct⟩
  have c : (asB (op2 eqD (getM 0) (pureM (.int 0)))) S = .ok false S := by
    refine ev_asB (ev_op2 (g2 := S) rfl rfl ((eqv_int k 0).trans ?_))
    rw [beq_false_of_ne (by omega)]
  refine tells_fn (g := S) rfl (ev_stop (ev_try (ev_next (ev_ifF c rfl) (ev_stop (ev_ret (ev_tup (ds := [.str "told", v]) (ev_cons (g1 := S) rfl (ev_cons (g1 := S) (ev_pick (g1 := S) (i := k - 1) rfl hh (ev_call (g1 := S) rfl h)) rfl)) (big (n := 2) (by decide)))) (fun z => nomatch z)))) (fun z => nomatch z))
theorem toldKX (ns : List Int) (k m d : Int) (x : D) (n z : Str) (ct : Int) (hf : FnM) (hk : 1 ≤ k) (hh : L2.atI [h_is_safe, h_first_lies, h_unsafe_sets] (k - 1) = some hf) (h : hf ns [.dat (.int m), .dat (.int d), .dat x] ct = .exc n ct) (hz : nmE n = some z) : Tells h_L_told ns [.dat (.int k), .dat (.int m), .dat (.int d), .dat x] ct (.str z) ct := by
  let S : Sg := ⟨[.dat (.int k), .dat (.int m), .dat (.int d), .dat x, .no], ct⟩
  have c : (asB (op2 eqD (getM 0) (pureM (.int 0)))) S = .ok false S := by
    refine ev_asB (ev_op2 (g2 := S) rfl rfl ((eqv_int k 0).trans ?_))
    rw [beq_false_of_ne (by omega)]
  exact tells_fn (g := ⟨S.sl.map fun _ => .no, ct⟩) rfl (ev_stop (ev_tryX (ev_next (ev_ifF c rfl) (ev_exc (ev_retX (ev_tupX (ev_consX2 (g1 := S) rfl (ev_consX (ev_pick (g1 := S) (i := k - 1) rfl hh (ev_callX (g1 := S) rfl h)))))))) hz) (fun z => nomatch z))
theorem same_tells (ns : List Int) (d : D) (ct : Int) (h : Nice 40 1000000 d) : Tells h_L_same ns [.dat d, .dat d] ct (.bool true) ct := by
  obtain ⟨h1, h2⟩ := repr_nice h
  let S : Sg := ⟨[.dat d, .dat d], ct⟩
  refine tells_fn (g := S) rfl (ev_stop (ev_ret (ev_op2 (g1 := S) (g2 := S) (ev_opN (xs := [.list [d]]) (ev_cons (g1 := S) (ev_lst (ev_guard (ds := [d]) rfl (big (n := 1) (by decide)))) rfl) h1) (ev_opN (xs := [.list [d]]) (ev_cons (g1 := S) (ev_lst (ev_guard (ds := [d]) rfl (big (n := 1) (by decide)))) rfl) h1) h2)) (fun z => nomatch z))
end K68

set_option Elab.async false
set_option linter.all false
set_option maxRecDepth 100000
set_option maxHeartbeats 4000000
namespace K68
open PySem PySem.Spec L2 DL
/-! what is evaluated -/
theorem fact0 : ∀ p ∈ cs, F p.1 p.2 0 = some 0 := by decide +kernel
theorem fact41 : F 4 1 1 = some 0 := by decide +kernel
theorem fact51 : F 5 1 1 = some 0 := by decide +kernel
theorem fact42 : anyBig 4 1 2 = false ∧ (findL 4 1 [0, 1]).isSome = true ∧ [0, 1] ∈ setsL 4 2 := by decide +kernel
theorem fact52 : anyBig 5 1 2 = false ∧ (findL 5 1 [0, 1]).isSome = true ∧ [0, 1] ∈ setsL 5 2 := by decide +kernel
theorem fact30 : anyBig 3 0 1 = false ∧ (badSets 3 0 1).length ≠ 0 := by decide +kernel
theorem fact31 : anyBig 3 1 1 = false ∧ badSets 3 1 1 = [[1], [2]] := by decide +kernel
theorem fact32 : anyBig 3 2 1 = false := by decide +kernel
end K68

set_option Elab.async false
set_option linter.all false
set_option maxRecDepth 100000
set_option maxHeartbeats 4000000
namespace K68
open PySem PySem.Spec L2 DL
structure LS where
  s2 : Slot
  s3 : Slot
  s4 : Slot
  s5 : Slot
  s6 : Slot
  s7 : Slot
  s8 : Slot
  s9 : Slot
  s10 : Slot
  s11 : Slot
  s12 : Slot
  s13 : Slot
  s14 : Slot
  s15 : Slot
  s16 : Slot
  s17 : Slot
  s18 : Slot
def Lg (l : LS) (ct : Int) : Sg := ⟨[.no, .sta, l.s2, l.s3, l.s4, l.s5, l.s6, l.s7, l.s8, l.s9, l.s10, l.s11, l.s12, l.s13, l.s14, l.s15, l.s16, l.s17, l.s18, .no, .no, .no, .no], ct⟩
/-! a comprehension whose test asks the stream -/
theorem lcLoop_st {k : D → M Unit} {c : M Bool} {e : M D} {vs : List Nat} {G : Int → Sg} (hG : ∀ c, (G c).forget vs = G c) :
    ∀ (xs : List Int) (acc : List D) (ct : Int), (∀ x ∈ xs, ∀ c', ct ≤ c' → c' < ct + xs.length → ∃ b g2 g3, k (.int x) (G c') = .ok () g2 ∧ c g2 = .ok b g3 ∧ (b = false → g3.forget vs = G (c' + 1)) ∧ (b = true → ∃ g4, e g3 = .ok (.int x) g4 ∧ g4.forget vs = G (c' + 1))) → acc.length + xs.length ≤ sizeLine →
      ∃ ys : List Int, ys.Sublist xs ∧ lcLoop k c e vs (xs.map PyData.int) acc (G ct) = .ok (acc ++ ys.map PyData.int) (G (ct + xs.length))
  | [], acc, ct, _, _ => by
    refine ⟨[], List.Sublist.refl _, ?_⟩
    show Res.ok acc ((G ct).forget vs) = _
    rw [hG]
    simp
  | x :: r, acc, ct, h, hz => by
    obtain ⟨b, g2, g3, h1, h2, h3, h4⟩ := h x List.mem_cons_self ct (Int.le_refl _) (by rw [List.length_cons]; omega)
    rw [List.length_cons] at hz
    have hn : ct + ((x :: r).length : Nat) = (ct + 1) + (r.length : Nat) := by rw [List.length_cons]; omega
    have e2 : (calmM c) g2 = .ok b g3 := by unfold calmM; rw [h2]; rfl
    have hr : ∀ y ∈ r, ∀ c', ct + 1 ≤ c' → c' < ct + 1 + r.length → ∃ b g2 g3, k (.int y) (G c') = .ok () g2 ∧ c g2 = .ok b g3 ∧ (b = false → g3.forget vs = G (c' + 1)) ∧ (b = true → ∃ g4, e g3 = .ok (.int y) g4 ∧ g4.forget vs = G (c' + 1)) :=
      fun y hy c' hc1 hc2 => h y (List.mem_cons_of_mem _ hy) c' (by omega) (by rw [List.length_cons]; omega)
    rw [hn]
    cases b with
    | false =>
      obtain ⟨ys, hs, e⟩ := lcLoop_st hG r acc (ct + 1) hr (by omega)
      refine ⟨ys, hs.cons x, ?_⟩
      show goG (k (.int x)) _ (G ct) = _
      unfold goG
      rw [h1]
      show ((calmM c) g2).bind _ = _
      rw [e2]
      show lcLoop k c _ vs (r.map PyData.int) acc (g3.forget vs) = _
      rw [h3 rfl]
      exact e
    | true =>
      obtain ⟨g4, e4, hg4⟩ := h4 rfl
      obtain ⟨ys, hs, e'⟩ := lcLoop_st hG r (acc ++ [.int x]) (ct + 1) hr (by rw [List.length_append]; simp; omega)
      refine ⟨x :: ys, hs.cons₂ x, ?_⟩
      show goG (k (.int x)) _ (G ct) = _
      unfold goG
      rw [h1]
      show ((calmM c) g2).bind _ = _
      rw [e2]
      show ((calmM e) g3).bind _ = _
      have e3 : (calmM e) g3 = .ok (.int x) g4 := by unfold calmM; rw [e4]; rfl
      rw [e3]
      show pushM acc (.int x) (fun acc' => afterM vs (lcLoop k c e vs (r.map PyData.int) acc')) g4 = _
      unfold pushM
      rw [if_pos (by omega)]
      show lcLoop k c e vs (r.map PyData.int) (acc ++ [.int x]) (g4.forget vs) = _
      rw [hg4, e']
      simp
theorem rngI_lt (a b : Int) : (rngI a b).Pairwise (· < ·) := by
  unfold rngI
  rw [List.pairwise_map]
  exact List.pairwise_lt_range.imp fun h => by omega
theorem okLiars_sub {m : Int} {ys : List Int} (h : ys.Sublist (rngI 0 m)) : okLiars m ys = true := by
  unfold okLiars
  rw [Bool.and_eq_true]
  constructor
  · rw [List.all_eq_true]
    intro x hx
    exact decide_eq_true (mem_rngI.mp (h.subset hx))
  · have hp := (rngI_lt 0 m).sublist h
    clear h
    induction ys with
    | nil => rfl
    | cons a r ih =>
      cases r with
      | nil => rfl
      | cons b s =>
        have h1 := List.pairwise_cons.mp hp
        show (decide (a < b) && _) = true
        rw [decide_eq_true (h1.1 b List.mem_cons_self)]
        exact ih h1.2
theorem case_of {m d : Int} (h1 : 1 ≤ m) (h2 : m ≤ 5) (h3 : 0 ≤ d) (h4 : d < (if m = 5 then 2 else 3)) : Case m d := by
  have hm : m = 1 ∨ m = 2 ∨ m = 3 ∨ m = 4 ∨ m = 5 := by omega
  have hd : d = 0 ∨ d = 1 ∨ (d = 2 ∧ m ≠ 5) := by split at h4 <;> omega
  unfold Case
  rcases hm with e | e | e | e | e <;> rcases hd with e2 | e2 | ⟨e2, e3⟩ <;> subst e <;> subst e2 <;> first | decide | exact (e3 rfl).elim
/-- what is drawn -/
theorem draw (ns : List Int) (h0 : ns ≠ []) (h1 : ns.length ≤ 4000) (l : LS) (ct : Int) (hc0 : 0 ≤ ct) (hc : ct ≤ 900) (rest : M Fl) : ∃ (m d : Int) (liars : List Int) (ct' : Int), Case m d ∧ okLiars m liars = true ∧ liars.length ≤ 5 ∧ ct ≤ ct' ∧ ct' ≤ ct + 7 ∧ (∀ x ∈ liars, -100 ≤ x ∧ x ≤ 100) ∧
    (seqM (asgM (op2 addD (pureM (.int 1)) (callM h_L_next ns (staM 1 (consM (pureM (.int 5)) (pureM []))))) (putM 3))
  (seqM (asgM (callM h_L_next ns (staM 1 (consM (op2 ixD (lstM (guardL (consM (pureM (.int 3)) (consM (pureM (.int 3)) (consM (pureM (.int 3)) (consM (pureM (.int 3)) (consM (pureM (.int 2)) (pureM [])))))))) (op2 subD (getM 3) (pureM (.int 1)))) (pureM [])))) (putM 4))
  (seqM (asgM (opN tupleOfD (consM (lstM (lcM (srcA rng1 (consM (getM 3) (pureM []))) (putM 19) (asB (op2 eqD (callM h_L_next ns (staM 1 (consM (pureM (.int 3)) (pureM [])))) (pureM (.int 0)))) (getM 19) [19])) (pureM []))) (putM 5)) rest))) (Lg l ct) = rest (Lg { l with s3 := .dat (.int m), s4 := .dat (.int d), s5 := .dat (eT liars) } ct') := by
  obtain ⟨v, v0, v1, hv⟩ := next_tells ns 5 ct h0 h1 hc0 (by omega) (by decide)
  let m := 1 + v
  let q : Int := if m = 5 then 2 else 3
  have hq : 0 < q := by show 0 < (if m = 5 then (2 : Int) else 3); split <;> decide
  obtain ⟨d, d0, d1, hd⟩ := next_tells ns q (ct + 1) h0 h1 (by omega) (by omega) hq
  let T1 : Int → Sg := fun c => Lg { l with s3 := .dat (.int m) } c
  let T2 : Int → Sg := fun c => Lg { l with s3 := .dat (.int m), s4 := .dat (.int d) } c
  have e1 : (asgM (op2 addD (pureM (.int 1)) (callM h_L_next ns (staM 1 (consM (pureM (.int 5)) (pureM []))))) (putM 3)) (Lg l ct) = .ok .next (T1 (ct + 1)) := ev_asg (d := .int m) (ev_op2 (g1 := Lg l ct) (g2 := Lg l (ct + 1)) rfl (ev_call (g1 := Lg l ct) (ss := [.sta, .dat (.int 5)]) rfl hv) rfl) rfl
  have eq : (op2 ixD (lstM (guardL (consM (pureM (.int 3)) (consM (pureM (.int 3)) (consM (pureM (.int 3)) (consM (pureM (.int 3)) (consM (pureM (.int 2)) (pureM [])))))))) (op2 subD (getM 3) (pureM (.int 1)))) (T1 (ct + 1)) = .ok (.int q) (T1 (ct + 1)) := by
    refine ev_op2 (g1 := T1 (ct + 1)) (g2 := T1 (ct + 1)) (x := .list [.int 3, .int 3, .int 3, .int 3, .int 2]) (y := .int (m - 1)) (ev_lst (ev_guard (ds := [.int 3, .int 3, .int 3, .int 3, .int 2]) rfl (big (n := 5) (by decide)))) rfl ?_
    show L2.atI [PyData.int 3, .int 3, .int 3, .int 3, .int 2] (m - 1) = some (.int (if m = 5 then 2 else 3))
    have hm : m = 1 ∨ m = 2 ∨ m = 3 ∨ m = 4 ∨ m = 5 := by omega
    generalize m = m at hm ⊢
    rcases hm with e | e | e | e | e <;> subst e
    · exact L2.atI_nat (j := 0) rfl
    · exact L2.atI_nat (j := 1) rfl
    · exact L2.atI_nat (j := 2) rfl
    · exact L2.atI_nat (j := 3) rfl
    · exact L2.atI_nat (j := 4) rfl
  have e2 : (asgM (callM h_L_next ns (staM 1 (consM (op2 ixD (lstM (guardL (consM (pureM (.int 3)) (consM (pureM (.int 3)) (consM (pureM (.int 3)) (consM (pureM (.int 3)) (consM (pureM (.int 2)) (pureM [])))))))) (op2 subD (getM 3) (pureM (.int 1)))) (pureM [])))) (putM 4)) (T1 (ct + 1)) = .ok .next (T2 (ct + 1 + 1)) := by
    refine ev_asg (d := .int d) (g1 := T1 (ct + 1 + 1)) (ev_call (g1 := T1 (ct + 1)) (ss := [.sta, .dat (.int q)]) ?_ hd) rfl
    exact ev_bind (a := [.int q]) (g1 := T1 (ct + 1)) (ev_cons (g1 := T1 (ct + 1)) eq rfl) rfl
  have hcase : Case m d := case_of (by omega) (by omega) d0 d1
  have hlen : (rngI 0 m).length ≤ 5 := by rw [len_rngI]; omega
  obtain ⟨ys, hs, e3⟩ := lcLoop_st (k := putM 19) (c := (asB (op2 eqD (callM h_L_next ns (staM 1 (consM (pureM (.int 3)) (pureM [])))) (pureM (.int 0))))) (e := getM 19) (vs := [19]) (G := T2) (fun c => rfl) (rngI 0 m) [] (ct + 1 + 1) (fun x hx c' hc1 hc2 => by
    obtain ⟨w, w0, w1, hw⟩ := next_tells ns 3 c' h0 h1 (by omega) (by omega) (by decide)
    let X : Int → Sg := fun c => ⟨[.no, .sta, l.s2, .dat (.int m), .dat (.int d), l.s5, l.s6, l.s7, l.s8, l.s9, l.s10, l.s11, l.s12, l.s13, l.s14, l.s15, l.s16, l.s17, l.s18, .dat (.int x), .no, .no, .no], c⟩
    exact ⟨w == 0, X c', X (c' + 1), rfl, ev_asB (ev_op2 (g1 := X (c' + 1)) (g2 := X (c' + 1)) (ev_call (g1 := X c') (ss := [.sta, .dat (.int 3)]) rfl hw) rfl (eqv_int w 0)), fun _ => rfl, fun _ => ⟨X (c' + 1), rfl, rfl⟩⟩) (big (by simp; omega))
  refine ⟨m, d, ys, ct + 1 + 1 + (rngI 0 m).length, hcase, okLiars_sub hs, Nat.le_trans hs.length_le hlen, by omega, by omega, fun x hx => ?_, ?_⟩
  · have := mem_rngI.mp (hs.subset hx)
    omega
  · refine ev_next e1 (ev_next e2 (ev_next (g1 := Lg { l with s3 := .dat (.int m), s4 := .dat (.int d), s5 := .dat (eT ys) } (ct + 1 + 1 + (rngI 0 m).length)) ?_ rfl))
    refine ev_asg (d := eT ys) (g1 := T2 (ct + 1 + 1 + (rngI 0 m).length)) (ev_opN (xs := [.list (ys.map PyData.int)]) (ev_cons (ev_lst ?_) rfl) rfl) rfl
    refine ev_bind (a := (rngI 0 m).map PyData.int) (g1 := T2 (ct + 1 + 1)) (ev_srcA (ds := [.int m]) rfl (rng1_i m (by omega) (by omega))) ?_
    show lcLoop _ _ _ _ ((rngI 0 m).map PyData.int) [] (T2 (ct + 1 + 1)) = _
    rw [e3]
    rfl
end K68

set_option Elab.async false
set_option linter.all false
set_option maxRecDepth 100000
set_option maxHeartbeats 4000000
namespace K68
open PySem PySem.Spec L2 DL
theorem nice_shaped {k n : Nat} {d : D} (h : Nice k n d) (hk : k ≤ 64) : SeqAt.shaped d = true := by
  show (d.canLay0 && decide (d.depth ≤ 64)) = true
  rw [h.c, decide_eq_true (Nat.le_trans h.dp hk)]
  rfl
theorem n_told : Nice 0 20 (.str "told") := nice_of (by decide +kernel)
theorem n_large : Nice 0 20 (.str "large") := nice_of (by decide +kernel)
theorem n_missing : Nice 0 20 (.str "missing") := nice_of (by decide +kernel)
theorem n_tell {k n : Nat} {v : D} (h : Nice k n v) (hn : 20 ≤ n) : Nice (k + 1) (2 * (n + 1)) (tellD v) := Nice.tuple (fun x hx => by
  rcases List.mem_cons.mp hx with e | hx
  · rw [e]; exact n_told.mono (Nat.zero_le _) hn
  · obtain rfl := List.mem_singleton.mp hx
    exact h) (Nat.le_refl 2)
theorem n_eR {m d : Int} {l : List Int} {p : Int × List Int} (hn : nL m d l ≤ 10) (h : findL m d l = some p) : Nice 2 422 (eR p) := by
  obtain ⟨ho, hw, _⟩ := findL_some h
  have hlen := lies_word _ _ hw
  have hb := lies_bits _ _ hw
  refine Nice.tuple (k := 1) (n := 210) (L := 2) (fun x hx => ?_) (Nat.le_refl 2)
  rcases List.mem_cons.mp hx with e | hx
  · rw [e]
    refine (Nice.int (i := p.1) ?_ ?_).mono (by decide) (by decide)
    · rcases ho with e | e <;> rw [e] <;> decide
    · rcases ho with e | e <;> rw [e] <;> decide
  · obtain rfl := List.mem_singleton.mp hx
    refine Nice.word (L := 10) (fun y hy => ?_) (by rw [hlen]; exact hn)
    rcases hb y hy with e | e <;> rw [e] <;> decide
def T1D (m d : Int) (l : List Int) : D := if 10 < nL m d l then .str "large" else tellD (.bool (findL m d l).isNone)
def miss : Option (Int × List Int) → D
  | none => .str "missing"
  | some p => tellD (eR p)
def T2D (m d : Int) (l : List Int) : D := if 10 < nL m d l then .str "large" else miss (findL m d l)
theorem nm_large : nmE "TooLarge" = some "large" := by decide +kernel
theorem nm_missing : nmE "Missing" = some "missing" := by decide +kernel
theorem nm_refused : nmE "NotAllowed" = some "refused" := by decide +kernel
theorem told1 (ns : List Int) (m d : Int) (l : List Int) (ct : Int) (h : Case m d) (hl : okLiars m l = true) (hz : l.length ≤ 1000) : Tells h_L_told ns [.dat (.int 1), .dat (.int m), .dat (.int d), .dat (eT l)] ct (T1D m d l) ct := by
  unfold T1D
  by_cases hb : 10 < nL m d l
  · rw [if_pos hb]
    exact toldKX ns 1 m d (eT l) "TooLarge" "large" ct h_is_safe (by decide) rfl (is_safe_large ns m d l ct h hl hz hb) nm_large
  · rw [if_neg hb]
    exact toldK ns 1 m d (eT l) _ ct h_is_safe (by decide) rfl (is_safe_tells ns m d l ct h hl hz (by omega))
theorem told2 (ns : List Int) (m d : Int) (l : List Int) (ct : Int) (h : Case m d) (hl : okLiars m l = true) (hz : l.length ≤ 1000) : Tells h_L_told ns [.dat (.int 2), .dat (.int m), .dat (.int d), .dat (eT l)] ct (T2D m d l) ct := by
  unfold T2D
  by_cases hb : 10 < nL m d l
  · rw [if_pos hb]
    exact toldKX ns 2 m d (eT l) "TooLarge" "large" ct h_first_lies (by decide) rfl (first_large ns m d l ct h hl hz hb) nm_large
  · rw [if_neg hb]
    cases hf : findL m d l with
    | none => exact toldKX ns 2 m d (eT l) "Missing" "missing" ct h_first_lies (by decide) rfl (first_none ns m d l ct h hl hz (by omega) hf) nm_missing
    | some p => exact toldK ns 2 m d (eT l) _ ct h_first_lies (by decide) rfl (first_some ns m d l ct h hl hz (by omega) p hf)
theorem ne_large (m d : Int) (l : List Int) : neD (firstD m d l) (.str "large") = some (.bool (!decide (10 < nL m d l))) := by
  have hs := nice_shaped n_large (by decide)
  unfold firstD
  by_cases hb : 10 < nL m d l
  · rw [if_pos hb, decide_eq_true hb]
    unfold neD
    rw [if_pos ⟨hs, hs⟩]
    rfl
  · rw [if_neg hb, decide_eq_false hb]
    unfold neD
    cases hf : findL m d l with
    | none =>
      rw [if_pos ⟨by rfl, hs⟩]
      rfl
    | some p =>
      rw [if_pos ⟨nice_shaped (n_eR (by omega) hf) (by decide), hs⟩]
      rfl
def LC (l : LS) (m d : Int) (w : List Int) : LS := { l with s3 := .dat (.int m), s4 := .dat (.int d), s5 := .dat (eT w) }
abbrev pDue : M Fl := (ifM (asB (op2 neD (getM 6) (pureM (.str "large"))))
  (seqM (asgM (lstM (guardL (consM (tupM (consM (pureM (.str "told")) (consM (op2 (isND false) (getM 6) (pureM .none)) (pureM [])))) (consM (op2 ixD (lstM (guardL (consM (pureM (.str "missing")) (consM (tupM (consM (pureM (.str "told")) (consM (getM 6) (pureM [])))) (pureM []))))) (opN intD (consM (op2 (isND true) (getM 6) (pureM .none)) (pureM [])))) (pureM []))))) (putM 7))
  nextM)
  nextM)
abbrev pSame (ns : List Int) : M Fl := (ifM (orM (notM (asB (callM h_L_same ns (datsM (consM (lstM (lcM (srcM (lstM (guardL (consM (pureM (.int 1)) (consM (pureM (.int 2)) (pureM [])))))) (putM 20) yesM (callM h_L_told ns (datsM (consM (getM 20) (consM (getM 3) (consM (getM 4) (consM (getM 5) (pureM []))))))) [20])) (consM (getM 7) (pureM []))))))) (andM (asB (op2 (inD true) (getM 6) (lstM (guardL (consM (pureM (.str "large")) (consM (pureM .none) (pureM []))))))) (asB (op2 (isBD true) (callM h_check_broken ns (datsM (consM (getM 3) (consM (getM 4) (consM (getM 5) (consM (getM 6) (pureM []))))))) (pureM (.bool true))))))
  (seqM (retM (pureM (.bool false)))
  nextM)
  nextM)
theorem part1 (ns : List Int) (m d : Int) (w : List Int) (l : LS) (ct : Int) (h : Case m d) (hl : okLiars m w = true) (hz : w.length ≤ 5) (rest : M Fl) : (seqM (asgM (callM h_L_first ns (datsM (consM (getM 3) (consM (getM 4) (consM (getM 5) (pureM [])))))) (putM 6))
  (seqM (asgM (lstM (guardL (consM (pureM (.str "large")) (consM (pureM (.str "large")) (pureM []))))) (putM 7))
  (seqM pDue (seqM (pSame ns) rest)))) (Lg (LC l m d w) ct) = rest (Lg { LC l m d w with s6 := .dat (firstD m d w), s7 := .dat (.list [T1D m d w, T2D m d w]) } ct) := by
  let X0 : Sg := Lg (LC l m d w) ct
  let X1 : Sg := Lg { LC l m d w with s6 := .dat (firstD m d w) } ct
  let X2 : Sg := Lg { LC l m d w with s6 := .dat (firstD m d w), s7 := .dat (.list [.str "large", .str "large"]) } ct
  let X3 : Sg := Lg { LC l m d w with s6 := .dat (firstD m d w), s7 := .dat (.list [T1D m d w, T2D m d w]) } ct
  have e1 : (asgM (callM h_L_first ns (datsM (consM (getM 3) (consM (getM 4) (consM (getM 5) (pureM [])))))) (putM 6)) X0 = .ok .next X1 := ev_asg (d := firstD m d w) (g1 := X0) (ev_call (g1 := X0) (ss := [.dat (.int m), .dat (.int d), .dat (eT w)]) rfl (lfirst_tells ns m d w ct h)) rfl
  have e2 : (asgM (lstM (guardL (consM (pureM (.str "large")) (consM (pureM (.str "large")) (pureM []))))) (putM 7)) X1 = .ok .next X2 := ev_asg (d := .list [.str "large", .str "large"]) (g1 := X1) (ev_lst (ev_guard (ds := [.str "large", .str "large"]) rfl (big (n := 2) (by decide)))) rfl
  have c3 : (asB (op2 neD (getM 6) (pureM (.str "large")))) X2 = .ok (!decide (10 < nL m d w)) X2 := ev_asB (ev_op2 (g2 := X2) (x := firstD m d w) rfl rfl (ne_large m d w))
  have e3 : pDue X2 = .ok .next X3 := by
    by_cases hb : 10 < nL m d w
    · rw [decide_eq_true hb] at c3
      have : X3 = X2 := by
        show Lg { LC l m d w with s6 := .dat (firstD m d w), s7 := .dat (.list [T1D m d w, T2D m d w]) } ct = _
        unfold T1D T2D
        rw [if_pos hb, if_pos hb]
      rw [this]
      exact ev_ifF c3 rfl
    · rw [decide_eq_false hb] at c3
      refine ev_ifT c3 (ev_next (g1 := X3) (ev_asg (d := .list [T1D m d w, T2D m d w]) (g1 := X2) (ev_lst (ev_guard (ds := [T1D m d w, T2D m d w]) (ev_cons (g1 := X2) (d := T1D m d w) ?_ (ev_cons (g1 := X2) (d := T2D m d w) ?_ rfl)) (big (n := 2) (by decide)))) rfl) rfl)
      · unfold T1D
        rw [if_neg hb]
        refine ev_tup (ds := [.str "told", .bool (findL m d w).isNone]) (ev_cons (g1 := X2) rfl (ev_cons (g1 := X2) (ev_op2 (g1 := X2) (g2 := X2) (x := firstD m d w) rfl rfl ?_) rfl)) (big (n := 2) (by decide))
        unfold firstD
        rw [if_neg hb]
        exact (isno_R _ false).trans (by rw [Bool.false_bne])
      · have hfd : firstD m d w = eO (findL m d w) := if_neg hb
        refine ev_op2 (g1 := X2) (g2 := X2) (x := .list [.str "missing", tellD (firstD m d w)]) (y := .int (if (findL m d w).isSome = true then 1 else 0)) (ev_lst (ev_guard (ds := [.str "missing", tellD (firstD m d w)]) (ev_cons (g1 := X2) rfl (ev_cons (g1 := X2) (ev_tup (ds := [.str "told", firstD m d w]) rfl (big (n := 2) (by decide))) rfl)) (big (n := 2) (by decide)))) (ev_opN (xs := [.bool (findL m d w).isSome]) (ev_cons (g1 := X2) (ev_op2 (g1 := X2) (g2 := X2) (x := firstD m d w) rfl rfl ?_) rfl) rfl) ?_
        · rw [hfd, isno_R]
          cases findL m d w <;> rfl
        · rw [hfd]
          unfold T2D
          rw [if_neg hb]
          cases findL m d w with
          | none => exact L2.atI_nat (j := 0) rfl
          | some p => exact L2.atI_nat (j := 1) rfl
  have hT : Nice 4 10000 (.list [T1D m d w, T2D m d w]) := by
    refine (Nice.list (xs := [T1D m d w, T2D m d w]) (k := 3) (n := 846) (L := 2) (fun x hx => ?_) (Nat.le_refl 2)).mono (by decide) (by decide)
    rcases List.mem_cons.mp hx with e | hx
    · rw [e]
      unfold T1D
      split
      · exact n_large.mono (by decide) (by decide)
      · exact (n_tell (Nice.bool _) (Nat.le_refl 20)).mono (by decide) (by decide)
    · obtain rfl := List.mem_singleton.mp hx
      unfold T2D
      split
      · exact n_large.mono (by decide) (by decide)
      · cases hf : findL m d w with
        | none => exact n_missing.mono (by decide) (by decide)
        | some p => exact (n_tell (n_eR (by omega) hf) (by decide)).mono (by decide) (by decide)
  have es : (lcM (srcM (lstM (guardL (consM (pureM (.int 1)) (consM (pureM (.int 2)) (pureM [])))))) (putM 20) yesM (callM h_L_told ns (datsM (consM (getM 20) (consM (getM 3) (consM (getM 4) (consM (getM 5) (pureM []))))))) [20]) X3 = .ok [T1D m d w, T2D m d w] X3 := by
    have eg : (lstM (guardL (consM (pureM (.int 1)) (consM (pureM (.int 2)) (pureM []))))) X3 = .ok (.list [.int 1, .int 2]) X3 := ev_lst (ev_guard (ds := [.int 1, .int 2]) rfl (big (n := 2) (by decide)))
    have := lcTm (k := putM 20) (e := (callM h_L_told ns (datsM (consM (getM 20) (consM (getM 3) (consM (getM 4) (consM (getM 5) (pureM [])))))))) (vs := [20]) (g := X3) (g1 := X3) PyData.int [1, 2] (fun x => if x = 1 then T1D m d w else T2D m d w) (src := srcM (lstM (guardL (consM (pureM (.int 1)) (consM (pureM (.int 2)) (pureM [])))))) (ev_bind eg rfl) (fun x hx => by
      let X : Sg := { X3 with sl := X3.sl.set 20 (.dat (.int x)) }
      refine ⟨X, X, rfl, ?_, rfl⟩
      refine ev_call (g1 := X) (ss := [.dat (.int x), .dat (.int m), .dat (.int d), .dat (eT w)]) rfl ?_
      rcases List.mem_cons.mp hx with e | hx
      · subst e
        rw [if_pos rfl]
        exact told1 ns m d w ct h hl (by omega)
      · obtain rfl := List.mem_singleton.mp hx
        rw [if_neg (by decide)]
        exact told2 ns m d w ct h hl (by omega)) (big (n := 2) (by decide))
    exact this
  have c4 : (notM (asB (callM h_L_same ns (datsM (consM (lstM (lcM (srcM (lstM (guardL (consM (pureM (.int 1)) (consM (pureM (.int 2)) (pureM [])))))) (putM 20) yesM (callM h_L_told ns (datsM (consM (getM 20) (consM (getM 3) (consM (getM 4) (consM (getM 5) (pureM []))))))) [20])) (consM (getM 7) (pureM []))))))) X3 = .ok false X3 :=
    ev_not (b := true) (ev_asB (ev_call (g1 := X3) (ss := [.dat (.list [T1D m d w, T2D m d w]), .dat (.list [T1D m d w, T2D m d w])]) (ev_dats (ds := [.list [T1D m d w, T2D m d w], .list [T1D m d w, T2D m d w]]) (ev_cons (g1 := X3) (ev_lst es) (ev_cons (g1 := X3) rfl rfl))) (same_tells ns _ ct (hT.mono (by decide) (by decide)))))
  have eg2 : (lstM (guardL (consM (pureM (.str "large")) (consM (pureM .none) (pureM []))))) X3 = .ok (.list [.str "large", .none]) X3 := ev_lst (ev_guard (ds := [.str "large", .none]) rfl (big (n := 2) (by decide)))
  have sh2 : SeqAt.shaped (.list [.str "large", .none]) = true := nice_shaped (Nice.list (xs := [.str "large", .none]) (k := 0) (n := 20) (L := 2) (fun x hx => by
    rcases List.mem_cons.mp hx with e | hx
    · rw [e]; exact n_large
    · obtain rfl := List.mem_singleton.mp hx
      exact Nice.none) (Nat.le_refl 2)) (by decide)
  have c5 : (andM (asB (op2 (inD true) (getM 6) (lstM (guardL (consM (pureM (.str "large")) (consM (pureM .none) (pureM []))))))) (asB (op2 (isBD true) (callM h_check_broken ns (datsM (consM (getM 3) (consM (getM 4) (consM (getM 5) (consM (getM 6) (pureM []))))))) (pureM (.bool true))))) X3 = .ok false X3 := by
    have ein : ∀ b : Bool, SeqAt.shaped (firstD m d w) = true → anyE (firstD m d w) [.str "large", .none] = b → (asB (op2 (inD true) (getM 6) (lstM (guardL (consM (pureM (.str "large")) (consM (pureM .none) (pureM []))))))) X3 = .ok (!b) X3 := fun b hs hb => by
      refine ev_asB (ev_op2 (g1 := X3) (g2 := X3) (x := firstD m d w) rfl eg2 ?_)
      unfold inD
      rw [if_pos ⟨hs, sh2⟩]
      show some (PyData.bool (if true = true then !(anyE (firstD m d w) [.str "large", .none]) else _)) = _
      rw [hb]
      rfl
    by_cases hb : 10 < nL m d w
    · have hfd : firstD m d w = .str "large" := if_pos hb
      exact ev_andF (ein true (by rw [hfd]; exact nice_shaped n_large (by decide)) (by rw [hfd]; rfl))
    · cases hf : findL m d w with
      | none =>
        have hfd : firstD m d w = .none := (if_neg hb).trans (by rw [hf]; rfl)
        exact ev_andF (ein true (by rw [hfd]; rfl) (by rw [hfd]; rfl))
      | some p =>
        have hfd : firstD m d w = eR p := (if_neg hb).trans (by rw [hf]; rfl)
        refine ev_andT (ein false (by rw [hfd]; exact nice_shaped (n_eR (by omega) hf) (by decide)) (by rw [hfd]; rfl)) (ev_asB (ev_op2 (g1 := X3) (g2 := X3) (x := .bool true) (y := .bool true) (ev_call (g1 := X3) (ss := [.dat (.int m), .dat (.int d), .dat (eT w), .dat (firstD m d w)]) rfl ?_) rfl rfl))
        rw [hfd]
        exact broken_tells ns m d w ct h hl (by omega) (by omega) p hf
  exact ev_next e1 (ev_next e2 (ev_next e3 (ev_next (ev_ifF (ev_orF c4 c5) rfl) rfl)))
end K68

set_option Elab.async false
set_option linter.all false
set_option maxRecDepth 100000
set_option maxHeartbeats 4000000
namespace K68
open PySem PySem.Spec L2 DL
theorem n_first (m d : Int) (u : List Int) : Nice 2 422 (firstD m d u) := by
  unfold firstD
  split
  · exact n_large.mono (by decide) (by decide)
  · cases hf : findL m d u with
    | none => exact Nice.none.mono (by decide) (by decide)
    | some p => exact n_eR (by omega) hf
theorem eqv_large (m d : Int) (u : List Int) : PyData.eqv (firstD m d u) (.str "large") = decide (10 < nL m d u) := by
  unfold firstD
  by_cases hb : 10 < nL m d u
  · rw [if_pos hb, decide_eq_true hb]
    rfl
  · rw [if_neg hb, decide_eq_false hb]
    cases findL m d u <;> rfl
def encF : Option Nat → D
  | none => .none
  | some k => .int (k : Nat)
def LF (l : LS) (fs : List D) (st : Bool) (a b c e : Slot) : LS := { l with s8 := .own fs, s9 := .dat (.bool st), s10 := a, s11 := b, s12 := c, s13 := e }
abbrev pFew (ns : List Int) : M Fl := (seqM (ifM (notM (asB (getM 9)))
  (seqM (asgM (lstM (lcM (srcM (callM h_L_sets ns (datsM (consM (getM 3) (consM (getM 10) (pureM [])))))) (putM 21) yesM (tupM (consM (getM 21) (consM (callM h_L_first ns (datsM (consM (getM 3) (consM (getM 4) (consM (getM 21) (pureM [])))))) (pureM [])))) [21])) (putM 11))
  (seqM (asgM (lstM (lcM (srcM (getM 11)) (tupG 2 (gConsM (putM 21) (gConsM (putM 22) gNilM))) (asB (op2 (isND true) (getM 22) (pureM .none))) (getM 21) [21, 22])) (putM 12))
  (seqM (asgM (callM h_L_told ns (datsM (consM (pureM (.int 3)) (consM (getM 3) (consM (getM 4) (consM (getM 10) (pureM []))))))) (putM 13))
  (seqM (ifM (asB (op2 (inD false) (pureM (.str "large")) (lstM (lcM (srcM (getM 11)) (tupG 2 (gConsM (putM 21) (gConsM (putM 22) gNilM))) yesM (getM 22) [21, 22]))))
  (seqM (ifM (asB (op2 neD (getM 13) (pureM (.str "large"))))
  (seqM (retM (pureM (.bool false)))
  nextM)
  nextM)
  (seqM (appM 8 (pureM .none))
  nextM))
  (seqM (ifM (notM (asB (callM h_L_same ns (datsM (consM (getM 13) (consM (tupM (consM (pureM (.str "told")) (consM (getM 12) (pureM [])))) (pureM [])))))))
  (seqM (retM (pureM (.bool false)))
  nextM)
  (seqM (appM 8 (opN lenD (consM (getM 12) (pureM []))))
  nextM))
  nextM))
  (seqM (asgM (op2 neD (ixV 8 (op1 negD (pureM (.int 1)))) (pureM (.int 0))) (putM 9))
  nextM)))))
  nextM)
  nextM)
def T3D (m d : Int) (n : Nat) : D := if anyBig m d n = true then .str "large" else tellD (.list ((badSets m d n).map eT))
theorem told3 (ns : List Int) (m d : Int) (n : Nat) (ct : Int) (h : Case m d) (hn : (n : Int) ≤ m) : Tells h_L_told ns [.dat (.int 3), .dat (.int m), .dat (.int d), .dat (.int (n : Nat))] ct (T3D m d n) ct := by
  unfold T3D
  by_cases hb : anyBig m d n = true
  · rw [if_pos hb]
    exact toldKX ns 3 m d (.int (n : Nat)) "TooLarge" "large" ct h_unsafe_sets (by decide) rfl (unsafe_large ns m d n ct h hn hb) nm_large
  · rw [if_neg hb]
    exact toldK ns 3 m d (.int (n : Nat)) _ ct h_unsafe_sets (by decide) rfl (unsafe_tells ns m d n ct h hn (not_big (by simpa using hb)))
theorem bad_words {m d : Int} (h : Case m d) {n : Nat} (hn : (n : Int) ≤ m) : (badSets m d n).length ≤ 20 ∧ ∀ u ∈ badSets m d n, (∀ x ∈ u, -100 ≤ x ∧ x ≤ 100) ∧ u.length ≤ 5 := by
  obtain ⟨b1, b2, b3, b4⟩ := h.bounds
  have hf := sets_facts h hn
  refine ⟨Nat.le_trans (List.length_filter_le _ _) hf.1, fun u hu => ?_⟩
  have hu := hf.2 u (List.mem_filter.mp hu).1
  refine ⟨fun x hx => ?_, by omega⟩
  have ho := hu.2.1
  unfold okLiars at ho
  rw [Bool.and_eq_true] at ho
  have := of_decide_eq_true (List.all_eq_true.mp ho.1 x hx)
  omega
theorem n_bad {m d : Int} (h : Case m d) {n : Nat} (hn : (n : Int) ≤ m) : Nice 2 3000 (.list ((badSets m d n).map eT)) := by
  obtain ⟨h1, h2⟩ := bad_words h hn
  refine (Nice.list (k := 1) (n := 105) (L := 20) (fun x hx => ?_) (by rw [List.length_map]; exact h1)).mono (by decide) (by decide)
  obtain ⟨u, hu, rfl⟩ := List.mem_map.mp hx
  exact Nice.word (h2 u hu).1 (h2 u hu).2
theorem ne_enc (v : Option Nat) : neD (encF v) (.int 0) = some (.bool (v != some 0)) := by
  cases v with
  | none => rfl
  | some k =>
    show some (PyData.bool (!(((k : Nat) : Int) == 0))) = _
    cases k with
    | zero => rfl
    | succ k => rw [beq_false_of_ne (by omega)]; rfl
theorem few_go (ns : List Int) (m d : Int) (w : List Int) (l : LS) (ct : Int) (h : Case m d) (n : Nat) (hn : (n : Int) ≤ m) (fs : List D) (hz : fs.length ≤ 10) (a b c e : Slot) :
    ∃ b' c' e', goG (putM 10 (.int (n : Nat))) (pFew ns) (Lg (LF (LC l m d w) fs false a b c e) ct) = .ok .next (Lg (LF (LC l m d w) (fs ++ [encF (F m d n)]) (F m d n != some 0) (.dat (.int (n : Nat))) b' c' e') ct) := by
  obtain ⟨b1, b2, b3, b4⟩ := h.bounds
  have hfac := sets_facts h hn
  let p := fun u : List Int => Bool.xor true (isNo (firstD m d u))
  let rows : D := .list ((setsL m n).map fun u => PyData.tuple [eT u, firstD m d u])
  let uns : D := .list (((setsL m n).filter p).map eT)
  let t3 : D := T3D m d n
  let A0 : Sg := Lg (LF (LC l m d w) fs false (.dat (.int (n : Nat))) b c e) ct
  let A1 : Sg := Lg (LF (LC l m d w) fs false (.dat (.int (n : Nat))) (.dat rows) c e) ct
  let A2 : Sg := Lg (LF (LC l m d w) fs false (.dat (.int (n : Nat))) (.dat rows) (.dat uns) e) ct
  let A3 : Sg := Lg (LF (LC l m d w) fs false (.dat (.int (n : Nat))) (.dat rows) (.dat uns) (.dat t3)) ct
  let A4 : Sg := Lg (LF (LC l m d w) (fs ++ [encF (F m d n)]) false (.dat (.int (n : Nat))) (.dat rows) (.dat uns) (.dat t3)) ct
  let A5 : Sg := Lg (LF (LC l m d w) (fs ++ [encF (F m d n)]) (F m d n != some 0) (.dat (.int (n : Nat))) (.dat rows) (.dat uns) (.dat t3)) ct
  have e1 : (asgM (lstM (lcM (srcM (callM h_L_sets ns (datsM (consM (getM 3) (consM (getM 10) (pureM [])))))) (putM 21) yesM (tupM (consM (getM 21) (consM (callM h_L_first ns (datsM (consM (getM 3) (consM (getM 4) (consM (getM 21) (pureM [])))))) (pureM [])))) [21])) (putM 11)) A0 = .ok .next A1 := by
    refine ev_asg (g1 := A0) (d := rows) (ev_lst ?_) rfl
    refine lcTm (g1 := A0) eT (setsL m n) (fun u => PyData.tuple [eT u, firstD m d u]) (ev_bind (ev_call (g1 := A0) (ss := [.dat (.int m), .dat (.int (n : Nat))]) rfl (lsets_tells ns m d n ct h hn)) rfl) (fun u hu => ?_) (big (by have := hfac.1; omega))
    let X : Sg := { A0 with sl := A0.sl.set 21 (.dat (eT u)) }
    exact ⟨X, X, rfl, ev_tup (ds := [eT u, firstD m d u]) (ev_cons (g1 := X) rfl (ev_cons (g1 := X) (ev_call (g1 := X) (ss := [.dat (.int m), .dat (.int d), .dat (eT u)]) rfl (lfirst_tells ns m d u ct h)) rfl)) (big (n := 2) (by decide)), rfl⟩
  have e2 : (asgM (lstM (lcM (srcM (getM 11)) (tupG 2 (gConsM (putM 21) (gConsM (putM 22) gNilM))) (asB (op2 (isND true) (getM 22) (pureM .none))) (getM 21) [21, 22])) (putM 12)) A1 = .ok .next A2 := by
    refine ev_asg (g1 := A1) (d := uns) (ev_lst ?_) rfl
    refine lcT (g1 := A1) (fun u => PyData.tuple [eT u, firstD m d u]) (setsL m n) p eT rfl (fun u hu => ?_) (big (by have := hfac.1; omega))
    let X : Sg := { A1 with sl := (A1.sl.set 21 (.dat (eT u))).set 22 (.dat (firstD m d u)) }
    exact ⟨X, X, rfl, ev_asB (ev_op2 (g1 := X) (g2 := X) (x := firstD m d u) (y := .none) (z := .bool (p u)) rfl rfl rfl), fun _ => rfl, fun _ => ⟨X, rfl, rfl⟩⟩
  have e3 : (asgM (callM h_L_told ns (datsM (consM (pureM (.int 3)) (consM (getM 3) (consM (getM 4) (consM (getM 10) (pureM []))))))) (putM 13)) A2 = .ok .next A3 :=
    ev_asg (g1 := A2) (d := t3) (ev_call (g1 := A2) (ss := [.dat (.int 3), .dat (.int m), .dat (.int d), .dat (.int (n : Nat))]) rfl (told3 ns m d n ct h hn)) rfl
  have el : (lstM (lcM (srcM (getM 11)) (tupG 2 (gConsM (putM 21) (gConsM (putM 22) gNilM))) yesM (getM 22) [21, 22])) A3 = .ok (.list ((setsL m n).map fun u => firstD m d u)) A3 := by
    refine ev_lst ?_
    refine lcTm (g1 := A3) (fun u => PyData.tuple [eT u, firstD m d u]) (setsL m n) (fun u => firstD m d u) rfl (fun u hu => ?_) (big (by have := hfac.1; omega))
    let X : Sg := { A3 with sl := (A3.sl.set 21 (.dat (eT u))).set 22 (.dat (firstD m d u)) }
    exact ⟨X, X, rfl, rfl, rfl⟩
  have c4 : (asB (op2 (inD false) (pureM (.str "large")) (lstM (lcM (srcM (getM 11)) (tupG 2 (gConsM (putM 21) (gConsM (putM 22) gNilM))) yesM (getM 22) [21, 22])))) A3 = .ok (anyBig m d n) A3 := by
    refine ev_asB (ev_op2 (g1 := A3) (g2 := A3) (x := .str "large") rfl el ?_)
    have hsl : SeqAt.shaped (.list ((setsL m n).map fun u => firstD m d u)) = true := nice_shaped (Nice.list (k := 2) (n := 422) (L := 20) (xs := (setsL m n).map fun u => firstD m d u) (fun x hx => by
      obtain ⟨u, _, rfl⟩ := List.mem_map.mp hx
      exact n_first m d u) (by rw [List.length_map]; exact hfac.1)) (by decide)
    unfold inD
    rw [if_pos ⟨nice_shaped n_large (by decide), hsl⟩]
    show some (PyData.bool (if false = true then _ else anyE (.str "large") ((setsL m n).map fun u => firstD m d u))) = _
    rw [if_neg (by decide)]
    unfold anyE anyBig
    rw [List.any_map]
    have hfun : ((fun z => PyData.eqv z (.str "large")) ∘ fun u => firstD m d u) = fun w => decide (10 < nL m d w) := funext fun u => eqv_large m d u
    rw [hfun]
  have e4 : (ifM (asB (op2 (inD false) (pureM (.str "large")) (lstM (lcM (srcM (getM 11)) (tupG 2 (gConsM (putM 21) (gConsM (putM 22) gNilM))) yesM (getM 22) [21, 22]))))
  (seqM (ifM (asB (op2 neD (getM 13) (pureM (.str "large"))))
  (seqM (retM (pureM (.bool false)))
  nextM)
  nextM)
  (seqM (appM 8 (pureM .none))
  nextM))
  (seqM (ifM (notM (asB (callM h_L_same ns (datsM (consM (getM 13) (consM (tupM (consM (pureM (.str "told")) (consM (getM 12) (pureM [])))) (pureM [])))))))
  (seqM (retM (pureM (.bool false)))
  nextM)
  (seqM (appM 8 (opN lenD (consM (getM 12) (pureM []))))
  nextM))
  nextM)) A3 = .ok .next A4 := by
    cases hb : anyBig m d n with
    | true =>
      rw [hb] at c4
      have hF : F m d n = none := by unfold F; rw [if_pos hb]
      have ht : t3 = .str "large" := by show T3D m d n = _; unfold T3D; rw [if_pos hb]
      have c5 : (asB (op2 neD (getM 13) (pureM (.str "large")))) A3 = .ok false A3 := by
        refine ev_asB (ev_op2 (g1 := A3) (g2 := A3) (x := t3) (y := .str "large") rfl rfl ?_)
        rw [ht]
        have hs := nice_shaped n_large (by decide)
        unfold neD
        rw [if_pos ⟨hs, hs⟩]
        rfl
      refine ev_ifT c4 (ev_next (ev_ifF c5 rfl) (ev_next (g1 := A4) ?_ rfl))
      show _ = Res.ok Fl.next (Lg (LF (LC l m d w) (fs ++ [encF (F m d n)]) false (.dat (.int (n : Nat))) (.dat rows) (.dat uns) (.dat t3)) ct)
      rw [hF]
      exact ev_app (i := 8) (g := A3) (g1 := A3) (xs := fs) (xs' := fs) (d := .none) rfl rfl rfl (small _ (by omega))
    | false =>
      rw [hb] at c4
      have hF : F m d n = some (badSets m d n).length := by unfold F; rw [if_neg (by rw [hb]; decide)]
      have ht : t3 = tellD (.list ((badSets m d n).map eT)) := by show T3D m d n = _; unfold T3D; rw [if_neg (by rw [hb]; decide)]
      have hu : uns = .list ((badSets m d n).map eT) := by
        show PyData.list (((setsL m n).filter p).map eT) = PyData.list (((setsL m n).filter fun w => (findL m d w).isSome).map eT)
        have : (setsL m n).filter p = (setsL m n).filter fun w => (findL m d w).isSome := by
          apply List.filter_congr
          intro u hu
          have hnb := not_big hb u hu
          show Bool.xor true (isNo (firstD m d u)) = _
          unfold firstD
          rw [if_neg (by omega)]
          cases findL m d u <;> rfl
        rw [this]
      have c5 : (notM (asB (callM h_L_same ns (datsM (consM (getM 13) (consM (tupM (consM (pureM (.str "told")) (consM (getM 12) (pureM [])))) (pureM []))))))) A3 = .ok false A3 := by
        have hsame := same_tells ns t3 ct (by rw [ht]; exact (n_tell (n_bad h hn) (by decide)).mono (by decide) (by decide))
        refine ev_not (b := true) (ev_asB (ev_call (g1 := A3) (ss := [.dat t3, .dat t3]) (ev_dats (ds := [t3, t3]) (ev_cons (g1 := A3) rfl (ev_cons (g1 := A3) ?_ rfl))) hsame))
        refine (ev_tup (g := A3) (g1 := A3) (ds := [.str "told", uns]) rfl (big (n := 2) (by decide))).trans ?_
        rw [hu, ht]
        rfl
      refine ev_ifF c4 (ev_next (g1 := A4) (ev_ifF c5 (ev_next (g1 := A4) ?_ rfl)) rfl)
      show _ = Res.ok Fl.next (Lg (LF (LC l m d w) (fs ++ [encF (F m d n)]) false (.dat (.int (n : Nat))) (.dat rows) (.dat uns) (.dat t3)) ct)
      rw [hF]
      refine ev_app (i := 8) (g := A3) (g1 := A3) (xs := fs) (xs' := fs) (d := .int ((badSets m d n).length : Nat)) rfl (ev_opN (xs := [uns]) rfl ?_) rfl (small _ (by omega))
      rw [hu]
      show some (PyData.int (((badSets m d n).map eT).length : Nat)) = _
      rw [List.length_map]
  have e5 : (asgM (op2 neD (ixV 8 (op1 negD (pureM (.int 1)))) (pureM (.int 0))) (putM 9)) A4 = .ok .next A5 := by
    refine ev_asg (g1 := A4) (d := .bool (F m d n != some 0)) (ev_op2 (g1 := A4) (g2 := A4) (x := encF (F m d n)) (y := .int 0) ?_ rfl (ne_enc _)) rfl
    show (liftO (L2.atI (fs ++ [encF (F m d n)]) (-1))) A4 = _
    rw [L2.atI_last]
    rfl
  exact ⟨_, _, _, ev_go (g1 := A0) rfl (ev_next (g1 := A5) (ev_ifT (g1 := A0) rfl (ev_next e1 (ev_next e2 (ev_next e3 (ev_next e4 (ev_next e5 rfl)))))) rfl)⟩
end K68

set_option Elab.async false
set_option linter.all false
set_option maxRecDepth 100000
set_option maxHeartbeats 4000000
namespace K68
open PySem PySem.Spec L2 DL
def Out (m d : Int) (i : Nat) (tl : List (Option Nat)) : Prop := (∀ j < i, F m d j = some 0) ∧ ((tl = [] ∧ (i : Int) = m + 1) ∨ ∃ v, tl = [v] ∧ v ≠ some 0 ∧ F m d i = v ∧ (i : Int) ≤ m)
def fsD (i : Nat) (tl : List (Option Nat)) : List D := (List.replicate i (some 0) ++ tl).map encF
theorem few_loop (ns : List Int) (m d : Int) (w : List Int) (l : LS) (ct : Int) (h : Case m d) (a0 b0 c0 e0 : Slot) : ∃ (i : Nat) (tl : List (Option Nat)) (st : Bool) (a b c e : Slot), Out m d i tl ∧
    (forS (srcA rng1 (consM (op2 addD (getM 3) (pureM (.int 1))) (pureM []))) (putM 10) (pFew ns)) (Lg (LF (LC l m d w) [] false a0 b0 c0 e0) ct) = .ok .next (Lg (LF (LC l m d w) (fsD i tl) st a b c e) ct) := by
  obtain ⟨b1, b2, b3, b4⟩ := h.bounds
  obtain ⟨g', hf, i, tl, st, a, b, c, e, hg, hi⟩ := forM_rel (k := putM 10) (body := pFew ns) (enc := PyData.int)
    (fun r g => ∃ (i : Nat) (tl : List (Option Nat)) (st : Bool) (a b c e : Slot), g = Lg (LF (LC l m d w) (fsD i tl) st a b c e) ct ∧ (∀ j < i, F m d j = some 0) ∧
      ((st = false ∧ tl = [] ∧ r = rngI (i : Nat) (m + 1) ∧ (i : Int) ≤ m + 1) ∨ (st = true ∧ ∃ v, tl = [v] ∧ v ≠ some 0 ∧ F m d i = v ∧ (i : Int) ≤ m))) (fun x r g hI => by
      obtain ⟨i, tl, st, a, b, c, e, rfl, hj, hI⟩ := hI
      rcases hI with ⟨rfl, rfl, hr, hi⟩ | ⟨rfl, hv⟩
      · obtain ⟨rfl, h2, hr⟩ := rngI_inv hr
        obtain ⟨b', c', e', hgo⟩ := few_go ns m d w l ct h i (by omega) (fsD i []) (by unfold fsD; rw [List.length_map, List.append_nil, List.length_replicate]; omega) a b c e
        cases hF : F m d i != some 0 with
        | false =>
          have hF0 : F m d i = some 0 := by simpa using hF
          rw [hF, hF0] at hgo
          have e1 : fsD i [] ++ [encF (some 0)] = fsD (i + 1) [] := by
            unfold fsD
            rw [List.append_nil, List.append_nil, List.replicate_succ', List.map_append]
            rfl
          rw [e1] at hgo
          refine ⟨_, hgo, i + 1, [], false, _, _, _, _, rfl, fun j hj2 => ?_, .inl ⟨rfl, rfl, ?_, by omega⟩⟩
          · by_cases he : j = i
            · rw [he]; exact hF0
            · exact hj j (by omega)
          · rw [hr]
            exact congrArg (fun z => rngI z (m + 1)) (by omega)
        | true =>
          rw [hF] at hgo
          have e1 : fsD i [] ++ [encF (F m d i)] = fsD i [F m d i] := by
            unfold fsD
            rw [List.append_nil, List.map_append]
            rfl
          rw [e1] at hgo
          exact ⟨_, hgo, i, [F m d i], true, _, _, _, _, rfl, hj, .inr ⟨rfl, _, rfl, by simpa using hF, rfl, by omega⟩⟩
      · exact ⟨Lg (LF (LC l m d w) (fsD i tl) true (.dat (.int x)) b c e) ct, ev_go (g1 := Lg (LF (LC l m d w) (fsD i tl) true (.dat (.int x)) b c e) ct) rfl (ev_next (ev_ifF (g1 := Lg (LF (LC l m d w) (fsD i tl) true (.dat (.int x)) b c e) ct) rfl rfl) rfl), i, tl, true, _, _, _, _, rfl, hj, .inr ⟨rfl, hv⟩⟩) (rngI 0 (m + 1)) (Lg (LF (LC l m d w) (fsD 0 []) false a0 b0 c0 e0) ct) ⟨0, [], false, _, _, _, _, rfl, (fun j hj => by omega), .inl ⟨rfl, rfl, rfl, by omega⟩⟩
  obtain ⟨hj, hi⟩ := hi
  subst hg
  refine ⟨i, tl, st, a, b, c, e, ⟨hj, ?_⟩, ev_for (g1 := Lg (LF (LC l m d w) [] false a0 b0 c0 e0) ct) (ev_srcA (ds := [.int (m + 1)]) rfl (rng1_i (m + 1) (by omega) (by omega))) hf⟩
  rcases hi with ⟨_, h1, hr, hi⟩ | ⟨_, hv⟩
  · refine .inl ⟨h1, ?_⟩
    have : (rngI (i : Nat) (m + 1)).length = 0 := by rw [← hr]; rfl
    rw [len_rngI] at this
    omega
  · exact .inr hv
/-! bears -/
theorem bearsG_all (f : Nat → Option Nat) : ∀ k few, (∀ j, few < j → j ≤ few + k → f j = some 0) → bearsG f k few = some (few + k)
  | 0, few, _ => rfl
  | k + 1, few, h => by
    show (match f (few + 1) with | none => none | some 0 => bearsG f k (few + 1) | some (_ + 1) => some few) = _
    rw [h (few + 1) (by omega) (by omega)]
    show bearsG f k (few + 1) = _
    rw [bearsG_all f k (few + 1) fun j h1 h2 => h j (by omega) (by omega)]
    congr 1
    omega
def bAns (v : Option Nat) (i : Nat) : Option Nat := match v with
  | none => none
  | some _ => some (i - 1)
theorem bearsG_stop (f : Nat → Option Nat) : ∀ k few i, few < i → i ≤ few + k → (∀ j, few < j → j < i → f j = some 0) → f i ≠ some 0 → bearsG f k few = bAns (f i) i
  | 0, few, i, h1, h2, _, _ => by omega
  | k + 1, few, i, h1, h2, hj, hn => by
    show (match f (few + 1) with | none => none | some 0 => bearsG f k (few + 1) | some (_ + 1) => some few) = _
    by_cases he : few + 1 = i
    · subst he
      cases hf : f (few + 1) with
      | none => rfl
      | some q =>
        cases q with
        | zero => exact (hn hf).elim
        | succ q => rfl
    · rw [hj (few + 1) (by omega) (by omega)]
      exact bearsG_stop f k (few + 1) i (by omega) (by omega) (fun j h3 h4 => hj j (by omega) h4) hn
theorem out_pos {m d : Int} (h : Case m d) {i : Nat} {tl : List (Option Nat)} (ho : Out m d i tl) : 1 ≤ i := by
  obtain ⟨b1, b2, b3, b4⟩ := h.bounds
  rcases ho.2 with ⟨_, hi⟩ | ⟨v, _, hn, hF, _⟩
  · omega
  · cases i with
    | zero => exact (hn (hF.symm.trans (fact0 (m, d) h))).elim
    | succ i => omega
theorem out_bears {m d : Int} (h : Case m d) {i : Nat} {tl : List (Option Nat)} (ho : Out m d i tl) : bearsG (F m d) m.toNat 0 = if tl = [none] then none else some (i - 1) := by
  obtain ⟨b1, b2, b3, b4⟩ := h.bounds
  have hp := out_pos h ho
  rcases ho.2 with ⟨h1, hi⟩ | ⟨v, h1, hn, hF, hi⟩
  · rw [bearsG_all _ _ _ fun j h3 h4 => ho.1 j (by omega), h1, if_neg (by simp)]
    congr 1
    omega
  · rw [bearsG_stop _ _ _ i (by omega) (by omega) (fun j h3 h4 => ho.1 j h4) (by rw [hF]; exact hn), hF, h1]
    cases v with
    | none => rfl
    | some q => rfl
def ansD (i : Nat) (tl : List (Option Nat)) : D := if tl = [none] then .str "large" else tellD (.int ((i : Int) - 1))
theorem told_bears (ns : List Int) (m d : Int) (ct : Int) (x : D) (h : Case m d) {i : Nat} {tl : List (Option Nat)} (ho : Out m d i tl) : Tells h_L_told ns [.dat (.int 0), .dat (.int m), .dat (.int d), .dat x] ct (ansD i tl) ct := by
  have hb := out_bears h ho
  have hp := out_pos h ho
  unfold ansD
  by_cases ht : tl = [none]
  · rw [if_pos ht] at hb ⊢
    exact told0X ns m d x "TooLarge" "large" ct (bears_large ns m d ct h hb) nm_large
  · rw [if_neg ht] at hb ⊢
    have := told0 ns m d x _ ct (bears_tells ns m d ct h _ hb)
    have e : ((i : Int) - 1) = ((i - 1 : Nat) : Int) := by omega
    rw [e]
    exact this
theorem eq_enc (v : Option Nat) : eqD (encF v) (.int 0) = some (.bool (v == some 0)) := by
  cases v with
  | none => rfl
  | some k =>
    show some (PyData.bool ((((k : Nat) : Int) == 0))) = _
    cases k with
    | zero => rfl
    | succ k => rw [beq_false_of_ne (by omega)]; rfl
theorem out_count {m d : Int} {i : Nat} {tl : List (Option Nat)} (ho : Out m d i tl) : ((List.replicate i (some 0) ++ tl).filter fun v => v == some 0).length = i := by
  rw [List.filter_append, List.length_append]
  have h1 : (List.replicate i (some 0)).filter (fun v : Option Nat => v == some 0) = List.replicate i (some 0) := List.filter_eq_self.mpr fun x hx => by rw [List.eq_of_mem_replicate hx]; rfl
  have h2 : tl.filter (fun v : Option Nat => v == some 0) = [] := by
    rcases ho.2 with ⟨h, _⟩ | ⟨v, h, hn, _⟩
    · rw [h]; rfl
    · rw [h, List.filter_cons_of_neg (by simpa using hn)]; rfl
  rw [h1, h2, List.length_replicate]
  rfl
theorem out_nice {m d : Int} (h : Case m d) {i : Nat} {tl : List (Option Nat)} (ho : Out m d i tl) : Nice 1 210 (.list (fsD i tl)) ∧ (fsD i tl).length ≤ 10 := by
  obtain ⟨b1, b2, b3, b4⟩ := h.bounds
  have hl : (fsD i tl).length ≤ 10 := by
    unfold fsD
    rw [List.length_map, List.length_append, List.length_replicate]
    rcases ho.2 with ⟨h1, hi⟩ | ⟨v, h1, hn, hF, hi⟩
    · rw [h1]; simp; omega
    · rw [h1]; simp; omega
  refine ⟨Nice.list (k := 0) (n := 20) (L := 10) (fun x hx => ?_) hl, hl⟩
  unfold fsD at hx
  obtain ⟨v, hv, rfl⟩ := List.mem_map.mp hx
  rcases List.mem_append.mp hv with hv | hv
  · rw [List.eq_of_mem_replicate hv]
    exact Nice.int (i := ((0 : Nat) : Int)) (by decide) (by decide)
  · rcases ho.2 with ⟨h1, hi⟩ | ⟨u, h1, hn, hF, hi⟩
    · rw [h1] at hv; cases hv
    · rw [h1] at hv
      obtain rfl := List.mem_singleton.mp hv
      unfold F at hF
      split at hF
      · subst hF; exact Nice.none
      · subst hF
        have := (bad_words h hi).1
        exact Nice.int (i := ((badSets m d i).length : Nat)) (by omega) (by omega)
theorem out_none {m d : Int} {i : Nat} {tl : List (Option Nat)} (ho : Out m d i tl) : anyE .none (fsD i tl) = decide (tl = [none]) := by
  unfold anyE fsD
  rw [List.any_map]
  have hfun : ((fun z => PyData.eqv z .none) ∘ encF) = fun v : Option Nat => v.isNone := funext fun v => by cases v <;> rfl
  rw [hfun, List.any_append]
  have h1 : (List.replicate i (some 0)).any (fun v : Option Nat => v.isNone) = false := List.any_eq_false.mpr fun x hx => by rw [List.eq_of_mem_replicate hx]; simp
  rw [h1, Bool.false_or]
  rcases ho.2 with ⟨h, _⟩ | ⟨v, h, hn, _⟩
  · rw [h]; rfl
  · rw [h]
    cases v <;> rfl
theorem out_one {m d : Int} (h : Case m d) (h1 : 3 * d < m) (h2 : 0 < d) {i : Nat} {tl : List (Option Nat)} (ho : Out m d i tl) : (fsD i tl)[1]? = some (.int 0) := by
  obtain ⟨b1, b2, b3, b4⟩ := h.bounds
  have hp := out_pos h ho
  have hF1 : F m d 1 = some 0 := by
    have hd : d = 1 := by omega
    have hm : m = 4 ∨ m = 5 := by omega
    subst hd
    rcases hm with e | e <;> subst e
    · exact fact41
    · exact fact51
  have hi2 : 2 ≤ i := by
    rcases ho.2 with ⟨_, hi⟩ | ⟨v, _, hn, hF, _⟩
    · omega
    · by_cases e : i = 1
      · subst e
        exact (hn (hF.symm.trans hF1)).elim
      · omega
  unfold fsD
  rw [List.getElem?_map, List.getElem?_append_left (by rw [List.length_replicate]; omega), List.getElem?_replicate, if_pos (by omega)]
  rfl
end K68

set_option Elab.async false
set_option linter.all false
set_option maxRecDepth 100000
set_option maxHeartbeats 4000000
namespace K68
open PySem PySem.Spec L2 DL
/-- behind the turns over few -/
def LD (l : LS) (fs : List D) (x14 x15 x16 x17 : Slot) : LS := { l with s8 := .dat (.list fs), s14 := x14, s15 := x15, s16 := x16, s17 := x17 }
abbrev dRef : D := .list [.str "refused", .str "refused", .str "refused", .str "refused", .str "refused"]
abbrev dLar : D := .list [.str "large", .str "large", .str "large", .str "large"]
theorem n_refused : Nice 0 20 (.str "refused") := nice_of (by decide +kernel)
theorem sh_ref : SeqAt.shaped dRef = true := nice_shaped (Nice.list (xs := [.str "refused", .str "refused", .str "refused", .str "refused", .str "refused"]) (k := 0) (n := 20) (L := 5) (fun x hx => by
  have : x = .str "refused" := by
    have h : List.replicate 5 (PyData.str "refused") = [.str "refused", .str "refused", .str "refused", .str "refused", .str "refused"] := rfl
    rw [← h] at hx
    exact List.eq_of_mem_replicate hx
  rw [this]
  exact n_refused) (Nat.le_refl 5)) (by decide)
theorem sh_lar : SeqAt.shaped dLar = true := nice_shaped (Nice.list (xs := [.str "large", .str "large", .str "large", .str "large"]) (k := 0) (n := 20) (L := 4) (fun x hx => by
  have : x = .str "large" := by
    have h : List.replicate 4 (PyData.str "large") = [.str "large", .str "large", .str "large", .str "large"] := rfl
    rw [← h] at hx
    exact List.eq_of_mem_replicate hx
  rw [this]
  exact n_large) (Nat.le_refl 4)) (by decide)
abbrev pBad (ns : List Int) : M D := (lstM (guardL (consM (callM h_L_told ns (datsM (consM (pureM (.int 0)) (consM (pureM (.int 0)) (consM (pureM (.int 0)) (consM (pureM (.int 0)) (pureM []))))))) (consM (callM h_L_told ns (datsM (consM (pureM (.int 1)) (consM (getM 3) (consM (getM 4) (consM (tupM (consM (getM 3) (pureM []))) (pureM []))))))) (consM (callM h_L_told ns (datsM (consM (pureM (.int 2)) (consM (getM 3) (consM (getM 4) (consM (tupM (consM (pureM (.int 1)) (consM (pureM (.int 0)) (pureM [])))) (pureM []))))))) (consM (callM h_L_told ns (datsM (consM (pureM (.int 3)) (consM (getM 3) (consM (getM 4) (consM (op1 negD (pureM (.int 1))) (pureM []))))))) (consM (callM h_L_told ns (datsM (consM (pureM (.int 0)) (consM (getM 3) (consM (op1 negD (pureM (.int 1))) (consM (pureM (.int 0)) (pureM []))))))) (pureM []))))))))
abbrev pLar (ns : List Int) : M D := (lstM (guardL (consM (callM h_L_told ns (datsM (consM (pureM (.int 0)) (consM (pureM (.int 6)) (consM (pureM (.int 0)) (consM (pureM (.int 0)) (pureM []))))))) (consM (callM h_L_told ns (datsM (consM (pureM (.int 1)) (consM (getM 3) (consM (pureM (.int 3)) (consM (tupM (pureM [])) (pureM []))))))) (consM (callM h_L_told ns (datsM (consM (pureM (.int 2)) (consM (pureM (.int 6)) (consM (pureM (.int 0)) (consM (tupM (pureM [])) (pureM []))))))) (consM (callM h_L_told ns (datsM (consM (pureM (.int 3)) (consM (getM 3) (consM (getM 4) (consM (op2 addD (getM 3) (pureM (.int 1))) (pureM []))))))) (pureM [])))))))
theorem bad_list (ns : List Int) (m d : Int) (w : List Int) (l : LS) (ct : Int) (h : Case m d) : pBad ns (Lg (LC l m d w) ct) = .ok dRef (Lg (LC l m d w) ct) := by
  obtain ⟨b1, b2, b3, b4⟩ := h.bounds
  let S : Sg := Lg (LC l m d w) ct
  have r1 : (callM h_L_told ns (datsM (consM (pureM (.int 0)) (consM (pureM (.int 0)) (consM (pureM (.int 0)) (consM (pureM (.int 0)) (pureM []))))))) S = .ok (.str "refused") S :=
    ev_call (g1 := S) (ss := [.dat (.int 0), .dat (.int 0), .dat (.int 0), .dat (.int 0)]) rfl (told0X ns 0 0 (.int 0) "NotAllowed" "refused" ct (bearsX ns 0 0 _ ct (check_low ns 0 0 [] ct (by decide) (by decide) (by decide))) nm_refused)
  have et : (tupM (consM (getM 3) (pureM []))) S = .ok (eT [m]) S := ev_tup (ds := [.int m]) (ev_cons (g1 := S) rfl rfl) (big (n := 1) (by decide))
  have r2 : (callM h_L_told ns (datsM (consM (pureM (.int 1)) (consM (getM 3) (consM (getM 4) (consM (tupM (consM (getM 3) (pureM []))) (pureM []))))))) S = .ok (.str "refused") S :=
    ev_call (g1 := S) (ss := [.dat (.int 1), .dat (.int m), .dat (.int d), .dat (eT [m])]) (ev_dats (ds := [.int 1, .int m, .int d, eT [m]]) (ev_cons (g1 := S) rfl (ev_cons (g1 := S) rfl (ev_cons (g1 := S) rfl (ev_cons (g1 := S) et rfl))))) (toldKX ns 1 m d (eT [m]) "NotAllowed" "refused" ct h_is_safe (by decide) rfl (is_safeX ns m d [m] _ ct (check_liars ns m d [m] ct h (by unfold okLiars; simp) (by simp))) nm_refused)
  have et2 : (tupM (consM (pureM (.int 1)) (consM (pureM (.int 0)) (pureM [])))) S = .ok (eT [1, 0]) S := ev_tup (ds := [.int 1, .int 0]) (ev_cons (g1 := S) rfl (ev_cons (g1 := S) rfl rfl)) (big (n := 2) (by decide))
  have r3 : (callM h_L_told ns (datsM (consM (pureM (.int 2)) (consM (getM 3) (consM (getM 4) (consM (tupM (consM (pureM (.int 1)) (consM (pureM (.int 0)) (pureM [])))) (pureM []))))))) S = .ok (.str "refused") S :=
    ev_call (g1 := S) (ss := [.dat (.int 2), .dat (.int m), .dat (.int d), .dat (eT [1, 0])]) (ev_dats (ds := [.int 2, .int m, .int d, eT [1, 0]]) (ev_cons (g1 := S) rfl (ev_cons (g1 := S) rfl (ev_cons (g1 := S) rfl (ev_cons (g1 := S) et2 rfl))))) (toldKX ns 2 m d (eT [1, 0]) "NotAllowed" "refused" ct h_first_lies (by decide) rfl (firstX ns m d [1, 0] _ ct (check_liars ns m d [1, 0] ct h (by unfold okLiars; simp) (by decide))) nm_refused)
  have r4 : (callM h_L_told ns (datsM (consM (pureM (.int 3)) (consM (getM 3) (consM (getM 4) (consM (op1 negD (pureM (.int 1))) (pureM []))))))) S = .ok (.str "refused") S :=
    ev_call (g1 := S) (ss := [.dat (.int 3), .dat (.int m), .dat (.int d), .dat (.int (-1))]) rfl (toldKX ns 3 m d (.int (-1)) "NotAllowed" "refused" ct h_unsafe_sets (by decide) rfl (unsafe_under ns m d (-1) ct h (by decide)) nm_refused)
  have r5 : (callM h_L_told ns (datsM (consM (pureM (.int 0)) (consM (getM 3) (consM (op1 negD (pureM (.int 1))) (consM (pureM (.int 0)) (pureM []))))))) S = .ok (.str "refused") S :=
    ev_call (g1 := S) (ss := [.dat (.int 0), .dat (.int m), .dat (.int (-1)), .dat (.int 0)]) rfl (told0X ns m (-1) (.int 0) "NotAllowed" "refused" ct (bearsX ns m (-1) _ ct (check_low ns m (-1) [] ct b2 (by decide) (.inr (by decide)))) nm_refused)
  exact ev_lst (ev_guard (ev_cons r1 (ev_cons r2 (ev_cons r3 (ev_cons r4 (ev_cons r5 rfl))))) (big (n := 5) (by decide)))
theorem lar_list (ns : List Int) (m d : Int) (w : List Int) (l : LS) (ct : Int) (h : Case m d) : pLar ns (Lg (LC l m d w) ct) = .ok dLar (Lg (LC l m d w) ct) := by
  obtain ⟨b1, b2, b3, b4⟩ := h.bounds
  let S : Sg := Lg (LC l m d w) ct
  have et : (tupM (pureM [])) S = .ok (eT []) S := ev_tup (ds := []) rfl (big (n := 0) (by decide))
  have r1 : (callM h_L_told ns (datsM (consM (pureM (.int 0)) (consM (pureM (.int 6)) (consM (pureM (.int 0)) (consM (pureM (.int 0)) (pureM []))))))) S = .ok (.str "large") S :=
    ev_call (g1 := S) (ss := [.dat (.int 0), .dat (.int 6), .dat (.int 0), .dat (.int 0)]) rfl (told0X ns 6 0 (.int 0) "TooLarge" "large" ct (bearsX ns 6 0 _ ct (check_large ns 6 0 [] ct (by decide))) nm_large)
  have r2 : (callM h_L_told ns (datsM (consM (pureM (.int 1)) (consM (getM 3) (consM (pureM (.int 3)) (consM (tupM (pureM [])) (pureM []))))))) S = .ok (.str "large") S :=
    ev_call (g1 := S) (ss := [.dat (.int 1), .dat (.int m), .dat (.int 3), .dat (eT [])]) (ev_dats (ds := [.int 1, .int m, .int 3, eT []]) (ev_cons (g1 := S) rfl (ev_cons (g1 := S) rfl (ev_cons (g1 := S) rfl (ev_cons (g1 := S) et rfl))))) (toldKX ns 1 m 3 (eT []) "TooLarge" "large" ct h_is_safe (by decide) rfl (is_safeX ns m 3 [] _ ct (check_large ns m 3 [] ct (.inr (by decide)))) nm_large)
  have r3 : (callM h_L_told ns (datsM (consM (pureM (.int 2)) (consM (pureM (.int 6)) (consM (pureM (.int 0)) (consM (tupM (pureM [])) (pureM []))))))) S = .ok (.str "large") S :=
    ev_call (g1 := S) (ss := [.dat (.int 2), .dat (.int 6), .dat (.int 0), .dat (eT [])]) (ev_dats (ds := [.int 2, .int 6, .int 0, eT []]) (ev_cons (g1 := S) rfl (ev_cons (g1 := S) rfl (ev_cons (g1 := S) rfl (ev_cons (g1 := S) et rfl))))) (toldKX ns 2 6 0 (eT []) "TooLarge" "large" ct h_first_lies (by decide) rfl (firstX ns 6 0 [] _ ct (check_large ns 6 0 [] ct (by decide))) nm_large)
  have r4 : (callM h_L_told ns (datsM (consM (pureM (.int 3)) (consM (getM 3) (consM (getM 4) (consM (op2 addD (getM 3) (pureM (.int 1))) (pureM []))))))) S = .ok (.str "large") S :=
    ev_call (g1 := S) (ss := [.dat (.int 3), .dat (.int m), .dat (.int d), .dat (.int (m + 1))]) rfl (toldKX ns 3 m d (.int (m + 1)) "TooLarge" "large" ct h_unsafe_sets (by decide) rfl (unsafe_over ns m d (m + 1) ct h (by omega)) nm_large)
  exact ev_lst (ev_guard (ev_cons r1 (ev_cons r2 (ev_cons r3 (ev_cons r4 rfl)))) (big (n := 4) (by decide)))
abbrev pTail (ns : List Int) : M Fl := (seqM (asgM (op2 subD (opN lenD (consM (lstM (lcM (srcM (getM 8)) (putM 22) (asB (op2 eqD (getM 22) (pureM (.int 0)))) (getM 22) [22])) (pureM []))) (pureM (.int 1))) (putM 14))
  (seqM (asgM (tupM (consM (pureM (.str "told")) (consM (getM 14) (pureM [])))) (putM 15))
  (seqM (ifM (asB (op2 (inD false) (pureM .none) (getM 8)))
  (seqM (asgM (pureM (.str "large")) (putM 15))
  nextM)
  nextM)
  (seqM (ifM (notM (asB (callM h_L_same ns (datsM (consM (callM h_L_told ns (datsM (consM (pureM (.int 0)) (consM (getM 3) (consM (getM 4) (consM (pureM (.int 0)) (pureM []))))))) (consM (getM 15) (pureM [])))))))
  (seqM (retM (pureM (.bool false)))
  nextM)
  nextM)
  (seqM (ifM (andM (asB (op2 gtD (getM 3) (op2 mulXD (pureM (.int 3)) (getM 4)))) (andM (asB (op2 gtD (getM 4) (pureM (.int 0)))) (andM (asB (op2 neD (ixV 8 (pureM (.int 1))) (pureM (.int 0)))) (asB (op2 ltD (getM 4) (pureM (.int 2)))))))
  (seqM (retM (pureM (.bool false)))
  nextM)
  nextM)
  (seqM (asgM (pBad ns) (putM 16))
  (seqM (asgM (pLar ns) (putM 17))
  (seqM (ifM (orM (asB (op2 neD (getM 16) (op2 mulXD (lstM (guardL (consM (pureM (.str "refused")) (pureM [])))) (pureM (.int 5))))) (asB (op2 neD (getM 17) (op2 mulXD (lstM (guardL (consM (pureM (.str "large")) (pureM [])))) (pureM (.int 4))))))
  (seqM (retM (pureM (.bool false)))
  nextM)
  nextM)
  nextM))))))))
theorem tail_go (ns : List Int) (m d : Int) (w : List Int) (l : LS) (ct : Int) (h : Case m d) (i : Nat) (tl : List (Option Nat)) (ho : Out m d i tl) (st : Bool) (a b c e : Slot) :
    ∃ l', pTail ns (Lg (LF (LC l m d w) (fsD i tl) st a b c e) ct) = .ok .next (Lg l' ct) := by
  obtain ⟨b1, b2, b3, b4⟩ := h.bounds
  obtain ⟨hnice, hlen⟩ := out_nice h ho
  let fs := fsD i tl
  let L1 : LS := LF (LC l m d w) fs st a b c e
  let B0 : Sg := Lg L1 ct
  let B1 : Sg := Lg (LD L1 fs L1.s14 L1.s15 L1.s16 L1.s17) ct
  let B2 : Sg := Lg (LD L1 fs (.dat (.int ((i : Int) - 1))) L1.s15 L1.s16 L1.s17) ct
  let B3 : Sg := Lg (LD L1 fs (.dat (.int ((i : Int) - 1))) (.dat (tellD (.int ((i : Int) - 1)))) L1.s16 L1.s17) ct
  let B4 : Sg := Lg (LD L1 fs (.dat (.int ((i : Int) - 1))) (.dat (ansD i tl)) L1.s16 L1.s17) ct
  let B5 : Sg := Lg (LD L1 fs (.dat (.int ((i : Int) - 1))) (.dat (ansD i tl)) (.dat dRef) L1.s17) ct
  let B6 : Sg := Lg (LD L1 fs (.dat (.int ((i : Int) - 1))) (.dat (ansD i tl)) (.dat dRef) (.dat dLar)) ct
  have e1 : (asgM (op2 subD (opN lenD (consM (lstM (lcM (srcM (getM 8)) (putM 22) (asB (op2 eqD (getM 22) (pureM (.int 0)))) (getM 22) [22])) (pureM []))) (pureM (.int 1))) (putM 14)) B0 = .ok .next B2 := by
    refine ev_asg (g1 := B1) (d := .int ((i : Int) - 1)) (ev_op2 (g1 := B1) (g2 := B1) (x := .int (i : Nat)) (y := .int 1) (ev_opN (xs := [.list (((List.replicate i (some 0) ++ tl).filter fun v => v == some 0).map encF)]) (ev_cons (g1 := B1) (ev_lst ?_) rfl) ?_) rfl rfl) rfl
    · refine lcT (g1 := B1) encF (List.replicate i (some 0) ++ tl) (fun v => v == some 0) encF rfl (fun v hv => ?_) (big (by
        have : ((List.replicate i (some 0) ++ tl).map encF).length ≤ 10 := hlen
        rw [List.length_map] at this
        omega))
      let X : Sg := { B1 with sl := B1.sl.set 22 (.dat (encF v)) }
      exact ⟨X, X, rfl, ev_asB (ev_op2 (g1 := X) (g2 := X) (x := encF v) (y := .int 0) rfl rfl (eq_enc v)), fun _ => rfl, fun _ => ⟨X, rfl, rfl⟩⟩
    · show some (PyData.int ((((List.replicate i (some 0) ++ tl).filter fun v => v == some 0).map encF).length : Nat)) = _
      rw [List.length_map, out_count ho]
  have e2 : (asgM (tupM (consM (pureM (.str "told")) (consM (getM 14) (pureM [])))) (putM 15)) B2 = .ok .next B3 := ev_asg (g1 := B2) (d := tellD (.int ((i : Int) - 1))) (ev_tup (ds := [.str "told", .int ((i : Int) - 1)]) (ev_cons (g1 := B2) rfl (ev_cons (g1 := B2) rfl rfl)) (big (n := 2) (by decide))) rfl
  have c3 : (asB (op2 (inD false) (pureM .none) (getM 8))) B3 = .ok (decide (tl = [none])) B3 := by
    refine ev_asB (ev_op2 (g1 := B3) (g2 := B3) (x := .none) (y := .list fs) rfl rfl ?_)
    unfold inD
    rw [if_pos ⟨nice_shaped Nice.none (by decide), nice_shaped hnice (by decide)⟩]
    show some (PyData.bool (if false = true then _ else anyE .none fs)) = _
    rw [if_neg (by decide), show anyE .none fs = _ from out_none ho]
  have e3 : (ifM (asB (op2 (inD false) (pureM .none) (getM 8)))
  (seqM (asgM (pureM (.str "large")) (putM 15))
  nextM)
  nextM) B3 = .ok .next B4 := by
    by_cases ht : tl = [none]
    · rw [decide_eq_true ht] at c3
      refine ev_ifT c3 (ev_next (g1 := B4) ?_ rfl)
      show _ = Res.ok Fl.next (Lg (LD L1 fs (.dat (.int ((i : Int) - 1))) (.dat (ansD i tl)) L1.s16 L1.s17) ct)
      unfold ansD
      rw [if_pos ht]
      rfl
    · rw [decide_eq_false ht] at c3
      refine ev_ifF c3 ?_
      show _ = Res.ok Fl.next (Lg (LD L1 fs (.dat (.int ((i : Int) - 1))) (.dat (ansD i tl)) L1.s16 L1.s17) ct)
      unfold ansD
      rw [if_neg ht]
      rfl
  have hpos := out_pos h ho
  have hi6 : (i : Int) ≤ m + 1 := by
    rcases ho.2 with ⟨_, hi⟩ | ⟨v, _, _, _, hi⟩ <;> omega
  have hna : Nice 40 1000000 (ansD i tl) := by
    unfold ansD
    split
    · exact n_large.mono (by decide) (by decide)
    · exact (n_tell (Nice.int (i := (i : Int) - 1) (by omega) (by omega)) (Nat.le_refl 20)).mono (by decide) (by decide)
  have c4 : (notM (asB (callM h_L_same ns (datsM (consM (callM h_L_told ns (datsM (consM (pureM (.int 0)) (consM (getM 3) (consM (getM 4) (consM (pureM (.int 0)) (pureM []))))))) (consM (getM 15) (pureM []))))))) B4 = .ok false B4 :=
    ev_not (b := true) (ev_asB (ev_call (g1 := B4) (ss := [.dat (ansD i tl), .dat (ansD i tl)]) (ev_dats (ds := [ansD i tl, ansD i tl]) (ev_cons (g1 := B4) (ev_call (g1 := B4) (ss := [.dat (.int 0), .dat (.int m), .dat (.int d), .dat (.int 0)]) rfl (told_bears ns m d ct (.int 0) h ho)) (ev_cons (g1 := B4) rfl rfl))) (same_tells ns _ ct hna)))
  have c5 : (andM (asB (op2 gtD (getM 3) (op2 mulXD (pureM (.int 3)) (getM 4)))) (andM (asB (op2 gtD (getM 4) (pureM (.int 0)))) (andM (asB (op2 neD (ixV 8 (pureM (.int 1))) (pureM (.int 0)))) (asB (op2 ltD (getM 4) (pureM (.int 2))))))) B4 = .ok false B4 := by
    have k1 : (asB (op2 gtD (getM 3) (op2 mulXD (pureM (.int 3)) (getM 4)))) B4 = .ok (decide (3 * d < m)) B4 := by
      refine ev_asB (ev_op2 (g1 := B4) (g2 := B4) (x := .int m) (y := .int (3 * d)) rfl (ev_op2 (g1 := B4) (g2 := B4) (x := .int 3) (y := .int d) rfl rfl ?_) rfl)
      show (if (smallI 3 || smallI d) = true then some (PyData.int (3 * d)) else none) = _
      rfl
    have k2 : (asB (op2 gtD (getM 4) (pureM (.int 0)))) B4 = .ok (decide (0 < d)) B4 := ev_asB (ev_op2 (g1 := B4) (g2 := B4) (x := .int d) (y := .int 0) rfl rfl rfl)
    by_cases h1 : 3 * d < m
    · rw [decide_eq_true h1] at k1
      refine ev_andT k1 ?_
      by_cases h2 : 0 < d
      · rw [decide_eq_true h2] at k2
        refine ev_andT k2 (ev_andF (ev_asB (ev_op2 (g1 := B4) (g2 := B4) (x := .int 0) (y := .int 0) ?_ rfl rfl)))
        show (liftO (L2.atI fs 1)) B4 = _
        rw [show L2.atI fs 1 = some (.int 0) from L2.atI_nat (j := 1) (out_one h h1 h2 ho)]
        rfl
      · rw [decide_eq_false h2] at k2
        exact ev_andF k2
    · rw [decide_eq_false h1] at k1
      exact ev_andF k1
  have e5 : (asgM (pBad ns) (putM 16)) B4 = .ok .next B5 := ev_asg (g1 := B4) (d := dRef) (bad_list ns m d w (LD (LF l fs st a b c e) fs (.dat (.int ((i : Int) - 1))) (.dat (ansD i tl)) L1.s16 L1.s17) ct h) rfl
  have e6 : (asgM (pLar ns) (putM 17)) B5 = .ok .next B6 := ev_asg (g1 := B5) (d := dLar) (lar_list ns m d w (LD (LF l fs st a b c e) fs (.dat (.int ((i : Int) - 1))) (.dat (ansD i tl)) (.dat dRef) L1.s17) ct h) rfl
  have m5 : (op2 mulXD (lstM (guardL (consM (pureM (.str "refused")) (pureM [])))) (pureM (.int 5))) B6 = .ok dRef B6 := by
    refine ev_op2 (g1 := B6) (g2 := B6) (x := .list [.str "refused"]) (y := .int 5) (ev_lst (ev_guard (ds := [.str "refused"]) rfl (big (n := 1) (by decide)))) rfl ?_
    show (if -(2 ^ 63) ≤ (5 : Int) ∧ (5 : Int) < 2 ^ 63 ∧ 1 * 5 ≤ sizeLine then some dRef else none) = _
    rw [if_pos ⟨by decide, by decide, big (by decide)⟩]
  have m4 : (op2 mulXD (lstM (guardL (consM (pureM (.str "large")) (pureM [])))) (pureM (.int 4))) B6 = .ok dLar B6 := by
    refine ev_op2 (g1 := B6) (g2 := B6) (x := .list [.str "large"]) (y := .int 4) (ev_lst (ev_guard (ds := [.str "large"]) rfl (big (n := 1) (by decide)))) rfl ?_
    show (if -(2 ^ 63) ≤ (4 : Int) ∧ (4 : Int) < 2 ^ 63 ∧ 1 * 4 ≤ sizeLine then some dLar else none) = _
    rw [if_pos ⟨by decide, by decide, big (by decide)⟩]
  have c7 : (orM (asB (op2 neD (getM 16) (op2 mulXD (lstM (guardL (consM (pureM (.str "refused")) (pureM [])))) (pureM (.int 5))))) (asB (op2 neD (getM 17) (op2 mulXD (lstM (guardL (consM (pureM (.str "large")) (pureM [])))) (pureM (.int 4)))))) B6 = .ok false B6 := by
    refine ev_orF (ev_asB (ev_op2 (g1 := B6) (x := dRef) (y := dRef) rfl m5 ?_)) (ev_asB (ev_op2 (g1 := B6) (x := dLar) (y := dLar) rfl m4 ?_))
    · unfold neD
      rw [if_pos ⟨sh_ref, sh_ref⟩]
      rfl
    · unfold neD
      rw [if_pos ⟨sh_lar, sh_lar⟩]
      rfl
  exact ⟨_, ev_next e1 (ev_next e2 (ev_next e3 (ev_next (ev_ifF c4 rfl) (ev_next (ev_ifF c5 rfl) (ev_next e5 (ev_next e6 (ev_next (ev_ifF c7 rfl) rfl)))))))⟩
end K68

set_option Elab.async false
set_option linter.all false
set_option maxRecDepth 100000
set_option maxHeartbeats 4000000
namespace K68
open PySem PySem.Spec L2 DL
theorem bears_one {m d : Int} (h : Case m d) (hm : 2 ≤ m) (h1 : F m d 1 = some 0) (hb : anyBig m d 2 = false) (u : List Int) (hf : (findL m d u).isSome = true) (hu : u ∈ setsL m 2) : bearsG (F m d) m.toNat 0 = some 1 := by
  have hF2 : F m d 2 = some (badSets m d 2).length := by unfold F; rw [if_neg (by rw [hb]; decide)]
  have hn : (badSets m d 2).length ≠ 0 := by
    intro z
    have : u ∈ badSets m d 2 := List.mem_filter.mpr ⟨hu, hf⟩
    rw [List.length_eq_zero_iff.mp z] at this
    cases this
  rw [bearsG_stop _ _ _ 2 (by decide) (by omega) (fun j h3 h4 => by have : j = 1 := (by omega); rw [this]; exact h1) (by rw [hF2]; intro z; exact hn (Option.some.inj z)), hF2]
  rfl
theorem turn_go (ns : List Int) (h0 : ns ≠ []) (h1 : ns.length ≤ 4000) (l : LS) (ct : Int) (hc0 : 0 ≤ ct) (hc : ct ≤ 900) : ∃ l' ct', ct' ≤ ct + 7 ∧ 0 ≤ ct' ∧
    (seqM (asgM (op2 addD (pureM (.int 1)) (callM h_L_next ns (staM 1 (consM (pureM (.int 5)) (pureM []))))) (putM 3))
  (seqM (asgM (callM h_L_next ns (staM 1 (consM (op2 ixD (lstM (guardL (consM (pureM (.int 3)) (consM (pureM (.int 3)) (consM (pureM (.int 3)) (consM (pureM (.int 3)) (consM (pureM (.int 2)) (pureM [])))))))) (op2 subD (getM 3) (pureM (.int 1)))) (pureM [])))) (putM 4))
  (seqM (asgM (opN tupleOfD (consM (lstM (lcM (srcA rng1 (consM (getM 3) (pureM []))) (putM 19) (asB (op2 eqD (callM h_L_next ns (staM 1 (consM (pureM (.int 3)) (pureM [])))) (pureM (.int 0)))) (getM 19) [19])) (pureM []))) (putM 5))
  (seqM (asgM (callM h_L_first ns (datsM (consM (getM 3) (consM (getM 4) (consM (getM 5) (pureM [])))))) (putM 6))
  (seqM (asgM (lstM (guardL (consM (pureM (.str "large")) (consM (pureM (.str "large")) (pureM []))))) (putM 7))
  (seqM pDue (seqM (pSame ns)
  (seqM (asgF (guardL (pureM [])) 8)
  (seqM (asgM (pureM (.bool false)) (putM 9))
  (seqM (forS (srcA rng1 (consM (op2 addD (getM 3) (pureM (.int 1))) (pureM []))) (putM 10) (pFew ns)) (pTail ns))))))))))) (Lg l ct) = .ok .next (Lg l' ct') := by
  obtain ⟨m, d, w, ct', hcase, hok, hwl, hct1, hct2, hwb, hd⟩ := draw ns h0 h1 l ct hc0 hc (seqM (asgM (callM h_L_first ns (datsM (consM (getM 3) (consM (getM 4) (consM (getM 5) (pureM [])))))) (putM 6))
  (seqM (asgM (lstM (guardL (consM (pureM (.str "large")) (consM (pureM (.str "large")) (pureM []))))) (putM 7))
  (seqM pDue (seqM (pSame ns)
  (seqM (asgF (guardL (pureM [])) 8)
  (seqM (asgM (pureM (.bool false)) (putM 9))
  (seqM (forS (srcA rng1 (consM (op2 addD (getM 3) (pureM (.int 1))) (pureM []))) (putM 10) (pFew ns)) (pTail ns))))))))
  have hp := part1 ns m d w l ct' hcase hok hwl (seqM (asgF (guardL (pureM [])) 8)
  (seqM (asgM (pureM (.bool false)) (putM 9))
  (seqM (forS (srcA rng1 (consM (op2 addD (getM 3) (pureM (.int 1))) (pureM []))) (putM 10) (pFew ns)) (pTail ns))))
  let l1 : LS := { l with s6 := .dat (firstD m d w), s7 := .dat (.list [T1D m d w, T2D m d w]) }
  obtain ⟨i, tl, st, a, b, c, e, ho, hf⟩ := few_loop ns m d w l1 ct' hcase l1.s10 l1.s11 l1.s12 l1.s13
  obtain ⟨l', ht⟩ := tail_go ns m d w l1 ct' hcase i tl ho st a b c e
  refine ⟨l', ct', by omega, by omega, hd.trans (hp.trans ?_)⟩
  let G0 : Sg := Lg (LC l1 m d w) ct'
  let G1 : Sg := Lg { LC l1 m d w with s8 := .own [] } ct'
  let G2 : Sg := Lg (LF (LC l1 m d w) [] false l1.s10 l1.s11 l1.s12 l1.s13) ct'
  have e1 : (asgF (guardL (pureM [])) 8) G0 = .ok .next G1 := ev_bind (a := []) (g1 := G0) (ev_guard (ds := []) rfl (big (n := 0) (by decide))) rfl
  have e2 : (asgM (pureM (.bool false)) (putM 9)) G1 = .ok .next G2 := rfl
  exact ev_next e1 (ev_next e2 (ev_next hf ht))
theorem lawOk : LawOk (N_law.length - 2) m_law := by
  intro ns h0 h1
  let l0 : LS := ⟨.no, .no, .no, .no, .no, .no, .no, .no, .no, .no, .no, .no, .no, .no, .no, .no, .no⟩
  obtain ⟨g', hf, l, ct, hg, hc0, hc⟩ := forM_rel (k := putM 2) (body := (seqM (asgM (op2 addD (pureM (.int 1)) (callM h_L_next ns (staM 1 (consM (pureM (.int 5)) (pureM []))))) (putM 3))
  (seqM (asgM (callM h_L_next ns (staM 1 (consM (op2 ixD (lstM (guardL (consM (pureM (.int 3)) (consM (pureM (.int 3)) (consM (pureM (.int 3)) (consM (pureM (.int 3)) (consM (pureM (.int 2)) (pureM [])))))))) (op2 subD (getM 3) (pureM (.int 1)))) (pureM [])))) (putM 4))
  (seqM (asgM (opN tupleOfD (consM (lstM (lcM (srcA rng1 (consM (getM 3) (pureM []))) (putM 19) (asB (op2 eqD (callM h_L_next ns (staM 1 (consM (pureM (.int 3)) (pureM [])))) (pureM (.int 0)))) (getM 19) [19])) (pureM []))) (putM 5))
  (seqM (asgM (callM h_L_first ns (datsM (consM (getM 3) (consM (getM 4) (consM (getM 5) (pureM [])))))) (putM 6))
  (seqM (asgM (lstM (guardL (consM (pureM (.str "large")) (consM (pureM (.str "large")) (pureM []))))) (putM 7))
  (seqM pDue (seqM (pSame ns)
  (seqM (asgF (guardL (pureM [])) 8)
  (seqM (asgM (pureM (.bool false)) (putM 9))
  (seqM (forS (srcA rng1 (consM (op2 addD (getM 3) (pureM (.int 1))) (pureM []))) (putM 10) (pFew ns)) (pTail ns)))))))))))) (enc := PyData.int)
    (fun r g => ∃ (l : LS) (ct : Int), g = Lg l ct ∧ 0 ≤ ct ∧ ct + 10 * r.length ≤ 100) (fun x r g hI => by
      obtain ⟨l, ct, rfl, hc0, hc⟩ := hI
      rw [List.length_cons] at hc
      obtain ⟨l', ct', h2, h3, hgo⟩ := turn_go ns h0 h1 { l with s2 := .dat (.int x) } ct hc0 (by omega)
      exact ⟨Lg l' ct', ev_go (g1 := Lg { l with s2 := .dat (.int x) } ct) rfl hgo, l', ct', rfl, h3, by omega⟩) (rngI 0 2) (Lg l0 0) ⟨l0, 0, rfl, Int.le_refl 0, by decide⟩
  subst hg
  have c30 : Case 3 0 := by unfold Case; decide
  have c31 : Case 3 1 := by unfold Case; decide
  have c32 : Case 3 2 := by unfold Case; decide
  have c41 : Case 4 1 := by unfold Case; decide
  have c51 : Case 5 1 := by unfold Case; decide
  let three : List D := (rngI 0 3).map fun d => T3D 3 d 1
  let G0 : Sg := Lg l ct
  let G1 : Sg := Lg { l with s4 := .no } ct
  let G2 : Sg := Lg { l with s4 := .no, s18 := .dat (.list three) } ct
  have e3 : (asgM (lstM (lcM (srcA rng1 (consM (pureM (.int 3)) (pureM []))) (putM 4) yesM (callM h_L_told ns (datsM (consM (pureM (.int 3)) (consM (pureM (.int 3)) (consM (getM 4) (consM (pureM (.int 1)) (pureM []))))))) [4])) (putM 18)) G0 = .ok .next G2 := by
    refine ev_asg (g1 := G1) (d := .list three) (ev_lst ?_) rfl
    refine lcTm (g1 := G0) PyData.int (rngI 0 3) (fun d => T3D 3 d 1) (ev_srcA (ds := [.int 3]) rfl (rng1_i 3 (by decide) (by decide))) (fun d hd => ?_) (big (by rw [len_rngI]; decide))
    have hd := mem_rngI.mp hd
    let X : Sg := Lg { l with s4 := .dat (.int d) } ct
    refine ⟨X, X, rfl, ev_call (g1 := X) (ss := [.dat (.int 3), .dat (.int 3), .dat (.int d), .dat (.int ((1 : Nat) : Int))]) rfl (told3 ns 3 d 1 ct ?_ (by decide)), rfl⟩
    have : d = 0 ∨ d = 1 ∨ d = 2 := by omega
    rcases this with e | e | e <;> subst e
    · exact c30
    · exact c31
    · exact c32
  have ht : three = [T3D 3 0 1, T3D 3 1 1, T3D 3 2 1] := rfl
  have g0 : (op2 ixD (getM 18) (pureM (.int 0))) G2 = .ok (T3D 3 0 1) G2 := ev_op2 (g1 := G2) (g2 := G2) (x := .list three) (y := .int 0) rfl rfl (L2.atI_nat (xs := three) (j := 0) rfl)
  have g1 : (op2 ixD (getM 18) (pureM (.int 1))) G2 = .ok (T3D 3 1 1) G2 := ev_op2 (g1 := G2) (g2 := G2) (x := .list three) (y := .int 1) rfl rfl (L2.atI_nat (xs := three) (j := 1) rfl)
  have d0 : T3D 3 0 1 = tellD (.list ((badSets 3 0 1).map eT)) := by unfold T3D; rw [if_neg (by rw [fact30.1]; decide)]
  have d1 : T3D 3 1 1 = tellD (.list [eT [1], eT [2]]) := by unfold T3D; rw [if_neg (by rw [fact31.1]; decide), fact31.2]; rfl
  have s0 : SeqAt.shaped (T3D 3 0 1) = true := by rw [d0]; exact nice_shaped (n_tell (n_bad c30 (n := 1) (by decide)) (by decide)) (by decide)
  have s1 : SeqAt.shaped (T3D 3 1 1) = true := by
    have hn := n_bad c31 (n := 1) (by decide)
    rw [fact31.2] at hn
    rw [d1]
    exact nice_shaped (n_tell hn (by decide)) (by decide)
  have sE : SeqAt.shaped (tellD (.list [])) = true := nice_shaped (n_tell (n := 20) (Nice.list (k := 0) (n := 20) (L := 0) (xs := []) (fun x hx => by cases hx) (Nat.le_refl 0) |>.mono (Nat.le_refl _) (by decide)) (Nat.le_refl 20)) (by decide)
  have sB : SeqAt.shaped (tellD (.int 1)) = true := nice_shaped (n_tell (Nice.int (i := 1) (by decide) (by decide)) (Nat.le_refl 20)) (by decide)
  have t0 : (tupM (consM (pureM (.str "told")) (consM (lstM (guardL (pureM []))) (pureM [])))) G2 = .ok (tellD (.list [])) G2 := ev_tup (ds := [.str "told", .list []]) (ev_cons (g1 := G2) rfl (ev_cons (g1 := G2) (ev_lst (ev_guard (ds := []) rfl (big (n := 0) (by decide)))) rfl)) (big (n := 2) (by decide))
  have u1 : (tupM (consM (pureM (.int 1)) (pureM []))) G2 = .ok (eT [1]) G2 := ev_tup (ds := [.int 1]) rfl (big (n := 1) (by decide))
  have u2 : (tupM (consM (pureM (.int 2)) (pureM []))) G2 = .ok (eT [2]) G2 := ev_tup (ds := [.int 2]) rfl (big (n := 1) (by decide))
  have t1 : (tupM (consM (pureM (.str "told")) (consM (lstM (guardL (consM (tupM (consM (pureM (.int 1)) (pureM []))) (consM (tupM (consM (pureM (.int 2)) (pureM []))) (pureM []))))) (pureM [])))) G2 = .ok (tellD (.list [eT [1], eT [2]])) G2 := ev_tup (ds := [.str "told", .list [eT [1], eT [2]]]) (ev_cons (g1 := G2) rfl (ev_cons (g1 := G2) (ev_lst (ev_guard (ev_cons u1 (ev_cons u2 rfl)) (big (n := 2) (by decide)))) rfl)) (big (n := 2) (by decide))
  have tB : (tupM (consM (pureM (.str "told")) (consM (pureM (.int 1)) (pureM [])))) G2 = .ok (tellD (.int 1)) G2 := ev_tup (ds := [.str "told", .int 1]) rfl (big (n := 2) (by decide))
  have r1 : (op2 neD (op2 ixD (getM 18) (pureM (.int 0))) (tupM (consM (pureM (.str "told")) (consM (lstM (guardL (pureM []))) (pureM []))))) G2 = .ok (.bool true) G2 := by
    refine ev_op2 g0 t0 ?_
    unfold neD
    rw [if_pos ⟨s0, sE⟩, d0]
    have hn := fact30.2
    cases hb : badSets 3 0 1 with
    | nil => rw [hb] at hn; exact (hn rfl).elim
    | cons x r => rfl
  have r2 : (op2 eqD (op2 ixD (getM 18) (pureM (.int 1))) (tupM (consM (pureM (.str "told")) (consM (lstM (guardL (consM (tupM (consM (pureM (.int 1)) (pureM []))) (consM (tupM (consM (pureM (.int 2)) (pureM []))) (pureM []))))) (pureM []))))) G2 = .ok (.bool true) G2 := by
    refine ev_op2 g1 t1 ?_
    unfold eqD
    rw [if_pos ⟨s1, by rw [← d1]; exact s1⟩, d1]
    rfl
  have r3 : (op2 eqD (callM h_L_told ns (datsM (consM (pureM (.int 0)) (consM (pureM (.int 4)) (consM (pureM (.int 1)) (consM (pureM (.int 0)) (pureM []))))))) (tupM (consM (pureM (.str "told")) (consM (pureM (.int 1)) (pureM []))))) G2 = .ok (.bool true) G2 := by
    refine ev_op2 (g1 := G2) (ev_call (g1 := G2) (ss := [.dat (.int 0), .dat (.int 4), .dat (.int 1), .dat (.int 0)]) rfl (told0 ns 4 1 (.int 0) _ ct (bears_tells ns 4 1 ct c41 1 (bears_one c41 (by decide) fact41 fact42.1 [0, 1] fact42.2.1 fact42.2.2)))) tB ?_
    unfold eqD
    rw [if_pos ⟨sB, sB⟩]
    rfl
  have r4 : (op2 eqD (callM h_L_told ns (datsM (consM (pureM (.int 0)) (consM (pureM (.int 5)) (consM (pureM (.int 1)) (consM (pureM (.int 0)) (pureM []))))))) (tupM (consM (pureM (.str "told")) (consM (pureM (.int 1)) (pureM []))))) G2 = .ok (.bool true) G2 := by
    refine ev_op2 (g1 := G2) (ev_call (g1 := G2) (ss := [.dat (.int 0), .dat (.int 5), .dat (.int 1), .dat (.int 0)]) rfl (told0 ns 5 1 (.int 0) _ ct (bears_tells ns 5 1 ct c51 1 (bears_one c51 (by decide) fact51 fact52.1 [0, 1] fact52.2.1 fact52.2.2)))) tB ?_
    unfold eqD
    rw [if_pos ⟨sB, sB⟩]
    rfl
  refine ⟨G2, ?_⟩
  show m_law ns (Lg l0 0) = _
  refine ev_next (ev_for (xs := (rngI 0 2).map PyData.int) (g1 := Lg l0 0) (ev_srcA (ds := [.int 2]) rfl (rng1_i 2 (by decide) (by decide))) hf) (ev_next e3 (ev_stop (ev_ret (ev_bind r1 (ev_bind r2 (ev_bind r3 r4)))) (fun z => nomatch z)))
end K68

set_option Elab.async false
set_option linter.all false
set_option maxRecDepth 100000
set_option maxHeartbeats 4000000
namespace K68
open PySem PySem.Spec L2 DL
theorem streamOk : StreamOk m_cell m_srest := DL.streamOk
end K68

namespace K68
open PySem PySem.Spec L2 StX DL
open PyProof.Rows hiding St
theorem all_mk {P : Program} {w : World} {K : PySem.W.Frag} {h : Heap} {mg : Str → Option Value} {fa f_check_case f_known_words f_known_lying f_known_told f_most f_settled f_known_decided f_is_kept f_all_lies f_found_lies f_is_safe f_first_lies f_check_broken f_unsafe_sets f_bears f_L_same f_L_error f_L_stream f_L_next f_L_told f_L_words f_L_agreed f_L_first f_L_sets f_law C_NetError C_NotAllowed C_TooLarge C_Missing C_BadPaper C_BadForm : Addr}
    {od_check_case an_check_case od_known_words an_known_words od_known_lying an_known_lying od_known_told an_known_told od_most an_most od_settled an_settled od_known_decided an_known_decided od_is_kept an_is_kept od_all_lies an_all_lies od_found_lies an_found_lies od_is_safe an_is_safe od_first_lies an_first_lies od_check_broken an_check_broken od_unsafe_sets an_unsafe_sets od_bears an_bears od_L_same an_L_same od_L_error an_L_error od_L_stream an_L_stream od_L_next an_L_next od_L_told an_L_told od_L_words an_L_words od_L_agreed an_L_agreed od_L_first an_L_first od_L_sets an_L_sets od_law an_law : Option Addr} {sl_check_case sl_known_words sl_known_lying sl_known_told sl_most sl_settled sl_known_decided sl_is_kept sl_all_lies sl_found_lies sl_is_safe sl_first_lies sl_check_broken sl_unsafe_sets sl_bears sl_L_same sl_L_error sl_L_stream sl_L_next sl_L_told sl_L_words sl_L_agreed sl_L_first sl_L_sets sl_law : Array (Option Value)} {oc_check_case kV_check_case dc_check_case pm_check_case cd_check_case ct_check_case oc_known_words kV_known_words dc_known_words pm_known_words cd_known_words ct_known_words oc_known_lying kV_known_lying dc_known_lying pm_known_lying cd_known_lying ct_known_lying oc_known_told kV_known_told dc_known_told pm_known_told cd_known_told ct_known_told oc_most kV_most dc_most pm_most cd_most ct_most oc_settled kV_settled dc_settled pm_settled cd_settled ct_settled oc_known_decided kV_known_decided dc_known_decided pm_known_decided cd_known_decided ct_known_decided oc_is_kept kV_is_kept dc_is_kept pm_is_kept cd_is_kept ct_is_kept oc_all_lies kV_all_lies dc_all_lies pm_all_lies cd_all_lies ct_all_lies oc_found_lies kV_found_lies dc_found_lies pm_found_lies cd_found_lies ct_found_lies oc_is_safe kV_is_safe dc_is_safe pm_is_safe cd_is_safe ct_is_safe oc_first_lies kV_first_lies dc_first_lies pm_first_lies cd_first_lies ct_first_lies oc_check_broken kV_check_broken dc_check_broken pm_check_broken cd_check_broken ct_check_broken oc_unsafe_sets kV_unsafe_sets dc_unsafe_sets pm_unsafe_sets cd_unsafe_sets ct_unsafe_sets oc_bears kV_bears dc_bears pm_bears cd_bears ct_bears oc_L_same kV_L_same dc_L_same pm_L_same cd_L_same ct_L_same oc_L_error kV_L_error dc_L_error pm_L_error cd_L_error ct_L_error oc_L_stream kV_L_stream dc_L_stream pm_L_stream cd_L_stream ct_L_stream oc_L_next kV_L_next dc_L_next pm_L_next cd_L_next ct_L_next oc_L_told kV_L_told dc_L_told pm_L_told cd_L_told ct_L_told oc_L_words kV_L_words dc_L_words pm_L_words cd_L_words ct_L_words oc_L_agreed kV_L_agreed dc_L_agreed pm_L_agreed cd_L_agreed ct_L_agreed oc_L_first kV_L_first dc_L_first pm_L_first cd_L_first ct_L_first oc_L_sets kV_L_sets dc_L_sets pm_L_sets cd_L_sets ct_L_sets oc_law kV_law dc_law pm_law cd_law ct_law : Value} {t_MAX_DEEP t_MAX_FOLK t_MAX_LIES : Tok} (X : K.In h) (G : h.Ns mainGlobals mg) (hfa : mg "law" = some (.ref fa))
    (a_check_case : PySem.W.nsIn K mainGlobals "check_case" = some (some (.ref f_check_case)))
    (l_check_case : K.lookup f_check_case = some ⟨oc_check_case, od_check_case, .func (PySem.W.fnOf "check_case" "check_case" (defArgs s_check_case) (defBody s_check_case) (defScope s_check_case) .none kV_check_case dc_check_case pm_check_case an_check_case cd_check_case ct_check_case), sl_check_case⟩)
    (c_check_case : PySem.W.codeIn K cd_check_case "check_case" = true)
    (k_check_case : PySem.W.keepIn K (.ref f_check_case) = true)
    (a_known_words : PySem.W.nsIn K mainGlobals "known_words" = some (some (.ref f_known_words)))
    (l_known_words : K.lookup f_known_words = some ⟨oc_known_words, od_known_words, .func (PySem.W.fnOf "known_words" "known_words" (defArgs s_known_words) (defBody s_known_words) (defScope s_known_words) .none kV_known_words dc_known_words pm_known_words an_known_words cd_known_words ct_known_words), sl_known_words⟩)
    (c_known_words : PySem.W.codeIn K cd_known_words "known_words" = true)
    (k_known_words : PySem.W.keepIn K (.ref f_known_words) = true)
    (a_known_lying : PySem.W.nsIn K mainGlobals "known_lying" = some (some (.ref f_known_lying)))
    (l_known_lying : K.lookup f_known_lying = some ⟨oc_known_lying, od_known_lying, .func (PySem.W.fnOf "known_lying" "known_lying" (defArgs s_known_lying) (defBody s_known_lying) (defScope s_known_lying) .none kV_known_lying dc_known_lying pm_known_lying an_known_lying cd_known_lying ct_known_lying), sl_known_lying⟩)
    (c_known_lying : PySem.W.codeIn K cd_known_lying "known_lying" = true)
    (k_known_lying : PySem.W.keepIn K (.ref f_known_lying) = true)
    (a_known_told : PySem.W.nsIn K mainGlobals "known_told" = some (some (.ref f_known_told)))
    (l_known_told : K.lookup f_known_told = some ⟨oc_known_told, od_known_told, .func (PySem.W.fnOf "known_told" "known_told" (defArgs s_known_told) (defBody s_known_told) (defScope s_known_told) .none kV_known_told dc_known_told pm_known_told an_known_told cd_known_told ct_known_told), sl_known_told⟩)
    (c_known_told : PySem.W.codeIn K cd_known_told "known_told" = true)
    (k_known_told : PySem.W.keepIn K (.ref f_known_told) = true)
    (a_most : PySem.W.nsIn K mainGlobals "most" = some (some (.ref f_most)))
    (l_most : K.lookup f_most = some ⟨oc_most, od_most, .func (PySem.W.fnOf "most" "most" (defArgs s_most) (defBody s_most) (defScope s_most) .none kV_most dc_most pm_most an_most cd_most ct_most), sl_most⟩)
    (c_most : PySem.W.codeIn K cd_most "most" = true)
    (k_most : PySem.W.keepIn K (.ref f_most) = true)
    (a_settled : PySem.W.nsIn K mainGlobals "settled" = some (some (.ref f_settled)))
    (l_settled : K.lookup f_settled = some ⟨oc_settled, od_settled, .func (PySem.W.fnOf "settled" "settled" (defArgs s_settled) (defBody s_settled) (defScope s_settled) .none kV_settled dc_settled pm_settled an_settled cd_settled ct_settled), sl_settled⟩)
    (c_settled : PySem.W.codeIn K cd_settled "settled" = true)
    (k_settled : PySem.W.keepIn K (.ref f_settled) = true)
    (a_known_decided : PySem.W.nsIn K mainGlobals "known_decided" = some (some (.ref f_known_decided)))
    (l_known_decided : K.lookup f_known_decided = some ⟨oc_known_decided, od_known_decided, .func (PySem.W.fnOf "known_decided" "known_decided" (defArgs s_known_decided) (defBody s_known_decided) (defScope s_known_decided) .none kV_known_decided dc_known_decided pm_known_decided an_known_decided cd_known_decided ct_known_decided), sl_known_decided⟩)
    (c_known_decided : PySem.W.codeIn K cd_known_decided "known_decided" = true)
    (k_known_decided : PySem.W.keepIn K (.ref f_known_decided) = true)
    (a_is_kept : PySem.W.nsIn K mainGlobals "is_kept" = some (some (.ref f_is_kept)))
    (l_is_kept : K.lookup f_is_kept = some ⟨oc_is_kept, od_is_kept, .func (PySem.W.fnOf "is_kept" "is_kept" (defArgs s_is_kept) (defBody s_is_kept) (defScope s_is_kept) .none kV_is_kept dc_is_kept pm_is_kept an_is_kept cd_is_kept ct_is_kept), sl_is_kept⟩)
    (c_is_kept : PySem.W.codeIn K cd_is_kept "is_kept" = true)
    (k_is_kept : PySem.W.keepIn K (.ref f_is_kept) = true)
    (a_all_lies : PySem.W.nsIn K mainGlobals "all_lies" = some (some (.ref f_all_lies)))
    (l_all_lies : K.lookup f_all_lies = some ⟨oc_all_lies, od_all_lies, .func (PySem.W.fnOf "all_lies" "all_lies" (defArgs s_all_lies) (defBody s_all_lies) (defScope s_all_lies) .none kV_all_lies dc_all_lies pm_all_lies an_all_lies cd_all_lies ct_all_lies), sl_all_lies⟩)
    (c_all_lies : PySem.W.codeIn K cd_all_lies "all_lies" = true)
    (k_all_lies : PySem.W.keepIn K (.ref f_all_lies) = true)
    (a_found_lies : PySem.W.nsIn K mainGlobals "found_lies" = some (some (.ref f_found_lies)))
    (l_found_lies : K.lookup f_found_lies = some ⟨oc_found_lies, od_found_lies, .func (PySem.W.fnOf "found_lies" "found_lies" (defArgs s_found_lies) (defBody s_found_lies) (defScope s_found_lies) .none kV_found_lies dc_found_lies pm_found_lies an_found_lies cd_found_lies ct_found_lies), sl_found_lies⟩)
    (c_found_lies : PySem.W.codeIn K cd_found_lies "found_lies" = true)
    (k_found_lies : PySem.W.keepIn K (.ref f_found_lies) = true)
    (a_is_safe : PySem.W.nsIn K mainGlobals "is_safe" = some (some (.ref f_is_safe)))
    (l_is_safe : K.lookup f_is_safe = some ⟨oc_is_safe, od_is_safe, .func (PySem.W.fnOf "is_safe" "is_safe" (defArgs s_is_safe) (defBody s_is_safe) (defScope s_is_safe) .none kV_is_safe dc_is_safe pm_is_safe an_is_safe cd_is_safe ct_is_safe), sl_is_safe⟩)
    (c_is_safe : PySem.W.codeIn K cd_is_safe "is_safe" = true)
    (k_is_safe : PySem.W.keepIn K (.ref f_is_safe) = true)
    (a_first_lies : PySem.W.nsIn K mainGlobals "first_lies" = some (some (.ref f_first_lies)))
    (l_first_lies : K.lookup f_first_lies = some ⟨oc_first_lies, od_first_lies, .func (PySem.W.fnOf "first_lies" "first_lies" (defArgs s_first_lies) (defBody s_first_lies) (defScope s_first_lies) .none kV_first_lies dc_first_lies pm_first_lies an_first_lies cd_first_lies ct_first_lies), sl_first_lies⟩)
    (c_first_lies : PySem.W.codeIn K cd_first_lies "first_lies" = true)
    (k_first_lies : PySem.W.keepIn K (.ref f_first_lies) = true)
    (a_check_broken : PySem.W.nsIn K mainGlobals "check_broken" = some (some (.ref f_check_broken)))
    (l_check_broken : K.lookup f_check_broken = some ⟨oc_check_broken, od_check_broken, .func (PySem.W.fnOf "check_broken" "check_broken" (defArgs s_check_broken) (defBody s_check_broken) (defScope s_check_broken) .none kV_check_broken dc_check_broken pm_check_broken an_check_broken cd_check_broken ct_check_broken), sl_check_broken⟩)
    (c_check_broken : PySem.W.codeIn K cd_check_broken "check_broken" = true)
    (k_check_broken : PySem.W.keepIn K (.ref f_check_broken) = true)
    (a_unsafe_sets : PySem.W.nsIn K mainGlobals "unsafe_sets" = some (some (.ref f_unsafe_sets)))
    (l_unsafe_sets : K.lookup f_unsafe_sets = some ⟨oc_unsafe_sets, od_unsafe_sets, .func (PySem.W.fnOf "unsafe_sets" "unsafe_sets" (defArgs s_unsafe_sets) (defBody s_unsafe_sets) (defScope s_unsafe_sets) .none kV_unsafe_sets dc_unsafe_sets pm_unsafe_sets an_unsafe_sets cd_unsafe_sets ct_unsafe_sets), sl_unsafe_sets⟩)
    (c_unsafe_sets : PySem.W.codeIn K cd_unsafe_sets "unsafe_sets" = true)
    (k_unsafe_sets : PySem.W.keepIn K (.ref f_unsafe_sets) = true)
    (a_bears : PySem.W.nsIn K mainGlobals "bears" = some (some (.ref f_bears)))
    (l_bears : K.lookup f_bears = some ⟨oc_bears, od_bears, .func (PySem.W.fnOf "bears" "bears" (defArgs s_bears) (defBody s_bears) (defScope s_bears) .none kV_bears dc_bears pm_bears an_bears cd_bears ct_bears), sl_bears⟩)
    (c_bears : PySem.W.codeIn K cd_bears "bears" = true)
    (k_bears : PySem.W.keepIn K (.ref f_bears) = true)
    (a_L_same : PySem.W.nsIn K mainGlobals "_law_same" = some (some (.ref f_L_same)))
    (l_L_same : K.lookup f_L_same = some ⟨oc_L_same, od_L_same, .func (PySem.W.fnOf "_law_same" "_law_same" (defArgs s_L_same) (defBody s_L_same) (defScope s_L_same) .none kV_L_same dc_L_same pm_L_same an_L_same cd_L_same ct_L_same), sl_L_same⟩)
    (c_L_same : PySem.W.codeIn K cd_L_same "_law_same" = true)
    (k_L_same : PySem.W.keepIn K (.ref f_L_same) = true)
    (a_L_error : PySem.W.nsIn K mainGlobals "_law_error" = some (some (.ref f_L_error)))
    (l_L_error : K.lookup f_L_error = some ⟨oc_L_error, od_L_error, .func (PySem.W.fnOf "_law_error" "_law_error" (defArgs s_L_error) (defBody s_L_error) (defScope s_L_error) .none kV_L_error dc_L_error pm_L_error an_L_error cd_L_error ct_L_error), sl_L_error⟩)
    (c_L_error : PySem.W.codeIn K cd_L_error "_law_error" = true)
    (k_L_error : PySem.W.keepIn K (.ref f_L_error) = true)
    (a_L_stream : PySem.W.nsIn K mainGlobals "_law_stream" = some (some (.ref f_L_stream)))
    (l_L_stream : K.lookup f_L_stream = some ⟨oc_L_stream, od_L_stream, .func (PySem.W.fnOf "_law_stream" "_law_stream" (defArgs s_L_stream) (defBody s_L_stream) (defScope s_L_stream) .none kV_L_stream dc_L_stream pm_L_stream an_L_stream cd_L_stream ct_L_stream), sl_L_stream⟩)
    (c_L_stream : PySem.W.codeIn K cd_L_stream "_law_stream" = true)
    (k_L_stream : PySem.W.keepIn K (.ref f_L_stream) = true)
    (a_L_next : PySem.W.nsIn K mainGlobals "_law_next" = some (some (.ref f_L_next)))
    (l_L_next : K.lookup f_L_next = some ⟨oc_L_next, od_L_next, .func (PySem.W.fnOf "_law_next" "_law_next" (defArgs s_L_next) (defBody s_L_next) (defScope s_L_next) .none kV_L_next dc_L_next pm_L_next an_L_next cd_L_next ct_L_next), sl_L_next⟩)
    (c_L_next : PySem.W.codeIn K cd_L_next "_law_next" = true)
    (k_L_next : PySem.W.keepIn K (.ref f_L_next) = true)
    (a_L_told : PySem.W.nsIn K mainGlobals "_law_told" = some (some (.ref f_L_told)))
    (l_L_told : K.lookup f_L_told = some ⟨oc_L_told, od_L_told, .func (PySem.W.fnOf "_law_told" "_law_told" (defArgs s_L_told) (defBody s_L_told) (defScope s_L_told) .none kV_L_told dc_L_told pm_L_told an_L_told cd_L_told ct_L_told), sl_L_told⟩)
    (c_L_told : PySem.W.codeIn K cd_L_told "_law_told" = true)
    (k_L_told : PySem.W.keepIn K (.ref f_L_told) = true)
    (a_L_words : PySem.W.nsIn K mainGlobals "_law_words" = some (some (.ref f_L_words)))
    (l_L_words : K.lookup f_L_words = some ⟨oc_L_words, od_L_words, .func (PySem.W.fnOf "_law_words" "_law_words" (defArgs s_L_words) (defBody s_L_words) (defScope s_L_words) .none kV_L_words dc_L_words pm_L_words an_L_words cd_L_words ct_L_words), sl_L_words⟩)
    (c_L_words : PySem.W.codeIn K cd_L_words "_law_words" = true)
    (k_L_words : PySem.W.keepIn K (.ref f_L_words) = true)
    (a_L_agreed : PySem.W.nsIn K mainGlobals "_law_agreed" = some (some (.ref f_L_agreed)))
    (l_L_agreed : K.lookup f_L_agreed = some ⟨oc_L_agreed, od_L_agreed, .func (PySem.W.fnOf "_law_agreed" "_law_agreed" (defArgs s_L_agreed) (defBody s_L_agreed) (defScope s_L_agreed) .none kV_L_agreed dc_L_agreed pm_L_agreed an_L_agreed cd_L_agreed ct_L_agreed), sl_L_agreed⟩)
    (c_L_agreed : PySem.W.codeIn K cd_L_agreed "_law_agreed" = true)
    (k_L_agreed : PySem.W.keepIn K (.ref f_L_agreed) = true)
    (a_L_first : PySem.W.nsIn K mainGlobals "_law_first" = some (some (.ref f_L_first)))
    (l_L_first : K.lookup f_L_first = some ⟨oc_L_first, od_L_first, .func (PySem.W.fnOf "_law_first" "_law_first" (defArgs s_L_first) (defBody s_L_first) (defScope s_L_first) .none kV_L_first dc_L_first pm_L_first an_L_first cd_L_first ct_L_first), sl_L_first⟩)
    (c_L_first : PySem.W.codeIn K cd_L_first "_law_first" = true)
    (k_L_first : PySem.W.keepIn K (.ref f_L_first) = true)
    (a_L_sets : PySem.W.nsIn K mainGlobals "_law_sets" = some (some (.ref f_L_sets)))
    (l_L_sets : K.lookup f_L_sets = some ⟨oc_L_sets, od_L_sets, .func (PySem.W.fnOf "_law_sets" "_law_sets" (defArgs s_L_sets) (defBody s_L_sets) (defScope s_L_sets) .none kV_L_sets dc_L_sets pm_L_sets an_L_sets cd_L_sets ct_L_sets), sl_L_sets⟩)
    (c_L_sets : PySem.W.codeIn K cd_L_sets "_law_sets" = true)
    (k_L_sets : PySem.W.keepIn K (.ref f_L_sets) = true)
    (a_law : PySem.W.nsIn K mainGlobals "law" = some (some (.ref f_law)))
    (l_law : K.lookup f_law = some ⟨oc_law, od_law, .func (PySem.W.fnOf "law" "law" (defArgs s_law) (defBody s_law) (defScope s_law) .none kV_law dc_law pm_law an_law cd_law ct_law), sl_law⟩)
    (c_law : PySem.W.codeIn K cd_law "law" = true)
    (k_law : PySem.W.keepIn K (.ref f_law) = true)
    (aC_NetError : PySem.W.nsIn K mainGlobals "NetError" = some (some (.ref C_NetError)))
    (aC_NotAllowed : PySem.W.nsIn K mainGlobals "NotAllowed" = some (some (.ref C_NotAllowed)))
    (aC_TooLarge : PySem.W.nsIn K mainGlobals "TooLarge" = some (some (.ref C_TooLarge)))
    (aC_Missing : PySem.W.nsIn K mainGlobals "Missing" = some (some (.ref C_Missing)))
    (aC_BadPaper : PySem.W.nsIn K mainGlobals "BadPaper" = some (some (.ref C_BadPaper)))
    (aC_BadForm : PySem.W.nsIn K mainGlobals "BadForm" = some (some (.ref C_BadForm)))
    (xC_BadPaper : PySem.W.excIn K C_BadPaper [.type "Exception", .type "BaseException", .type "object"] "Exception.__new__" = true)
    (kC_BadPaper : PySem.W.keepIn K (.ref C_BadPaper) = true)
    (bC_BadPaper : PySem.W.subIn K (.ref C_BadPaper) (.type "BaseException") = some true)
    (tC_BadPaper : PySem.W.typeIn K (.ref C_BadPaper) = some (.type "type"))
    (xC_Missing : PySem.W.excIn K C_Missing [.type "Exception", .type "BaseException", .type "object"] "Exception.__new__" = true)
    (kC_Missing : PySem.W.keepIn K (.ref C_Missing) = true)
    (bC_Missing : PySem.W.subIn K (.ref C_Missing) (.type "BaseException") = some true)
    (tC_Missing : PySem.W.typeIn K (.ref C_Missing) = some (.type "type"))
    (xC_NotAllowed : PySem.W.excIn K C_NotAllowed [.type "Exception", .type "BaseException", .type "object"] "Exception.__new__" = true)
    (kC_NotAllowed : PySem.W.keepIn K (.ref C_NotAllowed) = true)
    (bC_NotAllowed : PySem.W.subIn K (.ref C_NotAllowed) (.type "BaseException") = some true)
    (tC_NotAllowed : PySem.W.typeIn K (.ref C_NotAllowed) = some (.type "type"))
    (xC_TooLarge : PySem.W.excIn K C_TooLarge [.type "Exception", .type "BaseException", .type "object"] "Exception.__new__" = true)
    (kC_TooLarge : PySem.W.keepIn K (.ref C_TooLarge) = true)
    (bC_TooLarge : PySem.W.subIn K (.ref C_TooLarge) (.type "BaseException") = some true)
    (tC_TooLarge : PySem.W.typeIn K (.ref C_TooLarge) = some (.type "type"))
    (nb : PySem.W.subIn K (.ref C_NetError) (.type "BaseException") = some true)
    (nd : PySem.W.hasDictIn K C_NetError = true)
    (nt : PySem.W.typeIn K (.ref C_NetError) = some (.type "type"))
    (on : PySem.W.specialIn K (.builtin "object.__class__") "__get__" = some (some (.builtin "getset_descriptor.__get__")))
    (ot : PySem.W.takesIn K (.builtin "object.__class__") = some true)
    (eg_NotAllowed : PySem.W.findIn K (.ref C_NotAllowed) "__getattribute__" = some (some (.builtin "BaseException.__getattribute__")))
    (ek_NotAllowed : PySem.W.findIn K (.ref C_NotAllowed) "__getattr__" = some none)
    (es_NotAllowed : PySem.W.subIn K (.ref C_NotAllowed) (.type "BaseException") = some true)
    (ed_NotAllowed : PySem.W.hasDictIn K C_NotAllowed = true)
    (ea_NotAllowed : PySem.W.findIn K (.ref C_NotAllowed) "__class__" = some (some (.builtin "object.__class__")))
    (em_NotAllowed : PySem.W.mroIn K C_NotAllowed (.type "object") = some true)
    (en_NotAllowed : PySem.W.subIn K (.ref C_NotAllowed) (.ref C_NetError) = some true)
    (ke_NotAllowed_NotAllowed : PySem.W.subIn K (.ref C_NotAllowed) (.ref C_NotAllowed) = some true)
    (ke_NotAllowed_TooLarge : PySem.W.subIn K (.ref C_NotAllowed) (.ref C_TooLarge) = some false)
    (ke_NotAllowed_Missing : PySem.W.subIn K (.ref C_NotAllowed) (.ref C_Missing) = some false)
    (ke_NotAllowed_BadPaper : PySem.W.subIn K (.ref C_NotAllowed) (.ref C_BadPaper) = some false)
    (ke_NotAllowed_BadForm : PySem.W.subIn K (.ref C_NotAllowed) (.ref C_BadForm) = some false)
    (eg_TooLarge : PySem.W.findIn K (.ref C_TooLarge) "__getattribute__" = some (some (.builtin "BaseException.__getattribute__")))
    (ek_TooLarge : PySem.W.findIn K (.ref C_TooLarge) "__getattr__" = some none)
    (es_TooLarge : PySem.W.subIn K (.ref C_TooLarge) (.type "BaseException") = some true)
    (ed_TooLarge : PySem.W.hasDictIn K C_TooLarge = true)
    (ea_TooLarge : PySem.W.findIn K (.ref C_TooLarge) "__class__" = some (some (.builtin "object.__class__")))
    (em_TooLarge : PySem.W.mroIn K C_TooLarge (.type "object") = some true)
    (en_TooLarge : PySem.W.subIn K (.ref C_TooLarge) (.ref C_NetError) = some true)
    (ke_TooLarge_NotAllowed : PySem.W.subIn K (.ref C_TooLarge) (.ref C_NotAllowed) = some false)
    (ke_TooLarge_TooLarge : PySem.W.subIn K (.ref C_TooLarge) (.ref C_TooLarge) = some true)
    (ke_TooLarge_Missing : PySem.W.subIn K (.ref C_TooLarge) (.ref C_Missing) = some false)
    (ke_TooLarge_BadPaper : PySem.W.subIn K (.ref C_TooLarge) (.ref C_BadPaper) = some false)
    (ke_TooLarge_BadForm : PySem.W.subIn K (.ref C_TooLarge) (.ref C_BadForm) = some false)
    (eg_Missing : PySem.W.findIn K (.ref C_Missing) "__getattribute__" = some (some (.builtin "BaseException.__getattribute__")))
    (ek_Missing : PySem.W.findIn K (.ref C_Missing) "__getattr__" = some none)
    (es_Missing : PySem.W.subIn K (.ref C_Missing) (.type "BaseException") = some true)
    (ed_Missing : PySem.W.hasDictIn K C_Missing = true)
    (ea_Missing : PySem.W.findIn K (.ref C_Missing) "__class__" = some (some (.builtin "object.__class__")))
    (em_Missing : PySem.W.mroIn K C_Missing (.type "object") = some true)
    (en_Missing : PySem.W.subIn K (.ref C_Missing) (.ref C_NetError) = some true)
    (ke_Missing_NotAllowed : PySem.W.subIn K (.ref C_Missing) (.ref C_NotAllowed) = some false)
    (ke_Missing_TooLarge : PySem.W.subIn K (.ref C_Missing) (.ref C_TooLarge) = some false)
    (ke_Missing_Missing : PySem.W.subIn K (.ref C_Missing) (.ref C_Missing) = some true)
    (ke_Missing_BadPaper : PySem.W.subIn K (.ref C_Missing) (.ref C_BadPaper) = some false)
    (ke_Missing_BadForm : PySem.W.subIn K (.ref C_Missing) (.ref C_BadForm) = some false)
    (eg_BadPaper : PySem.W.findIn K (.ref C_BadPaper) "__getattribute__" = some (some (.builtin "BaseException.__getattribute__")))
    (ek_BadPaper : PySem.W.findIn K (.ref C_BadPaper) "__getattr__" = some none)
    (es_BadPaper : PySem.W.subIn K (.ref C_BadPaper) (.type "BaseException") = some true)
    (ed_BadPaper : PySem.W.hasDictIn K C_BadPaper = true)
    (ea_BadPaper : PySem.W.findIn K (.ref C_BadPaper) "__class__" = some (some (.builtin "object.__class__")))
    (em_BadPaper : PySem.W.mroIn K C_BadPaper (.type "object") = some true)
    (en_BadPaper : PySem.W.subIn K (.ref C_BadPaper) (.ref C_NetError) = some true)
    (ke_BadPaper_NotAllowed : PySem.W.subIn K (.ref C_BadPaper) (.ref C_NotAllowed) = some false)
    (ke_BadPaper_TooLarge : PySem.W.subIn K (.ref C_BadPaper) (.ref C_TooLarge) = some false)
    (ke_BadPaper_Missing : PySem.W.subIn K (.ref C_BadPaper) (.ref C_Missing) = some false)
    (ke_BadPaper_BadPaper : PySem.W.subIn K (.ref C_BadPaper) (.ref C_BadPaper) = some true)
    (ke_BadPaper_BadForm : PySem.W.subIn K (.ref C_BadPaper) (.ref C_BadForm) = some false)
    (hd_NotAllowed : PySem.W.hasDictIn K C_NotAllowed = true)
    (ht_NotAllowed : PySem.W.typeIn K (.ref C_NotAllowed) = some (.type "type"))
    (hd_TooLarge : PySem.W.hasDictIn K C_TooLarge = true)
    (ht_TooLarge : PySem.W.typeIn K (.ref C_TooLarge) = some (.type "type"))
    (hd_Missing : PySem.W.hasDictIn K C_Missing = true)
    (ht_Missing : PySem.W.typeIn K (.ref C_Missing) = some (.type "type"))
    (hd_BadPaper : PySem.W.hasDictIn K C_BadPaper = true)
    (ht_BadPaper : PySem.W.typeIn K (.ref C_BadPaper) = some (.type "type"))
    (hd_BadForm : PySem.W.hasDictIn K C_BadForm = true)
    (ht_BadForm : PySem.W.typeIn K (.ref C_BadForm) = some (.type "type"))
    (z_abs : PySem.W.nsIn K mainGlobals "abs" = some none)
    (z_all : PySem.W.nsIn K mainGlobals "all" = some none)
    (z_enumerate : PySem.W.nsIn K mainGlobals "enumerate" = some none)
    (z_int : PySem.W.nsIn K mainGlobals "int" = some none)
    (z_isinstance : PySem.W.nsIn K mainGlobals "isinstance" = some none)
    (z_len : PySem.W.nsIn K mainGlobals "len" = some none)
    (z_list : PySem.W.nsIn K mainGlobals "list" = some none)
    (z_range : PySem.W.nsIn K mainGlobals "range" = some none)
    (z_repr : PySem.W.nsIn K mainGlobals "repr" = some none)
    (z_set : PySem.W.nsIn K mainGlobals "set" = some none)
    (z_sum : PySem.W.nsIn K mainGlobals "sum" = some none)
    (z_tuple : PySem.W.nsIn K mainGlobals "tuple" = some none)
    (z_zip : PySem.W.nsIn K mainGlobals "zip" = some none)
    (q_MAX_DEEP : PySem.W.nsIn K mainGlobals "MAX_DEEP" = some (some (.int 2 t_MAX_DEEP)))
    (q_MAX_FOLK : PySem.W.nsIn K mainGlobals "MAX_FOLK" = some (some (.int 5 t_MAX_FOLK)))
    (q_MAX_LIES : PySem.W.nsIn K mainGlobals "MAX_LIES" = some (some (.int 10 t_MAX_LIES))) :
    ∃ fd : FuncData, (∀ (s : Shared) (v : Value), BindsTo s fd ⟨[v], []⟩ [("script", v)]) ∧ ∀ base : Heap, K.In base → base.Ns mainGlobals mg → FnG P w K mg base 11 fa fd ["script"] (spLaw K) := by
  have e := hfa.symm.trans (PySem.W.mg_of X G a_law)
  cases e
  have T : Txt K mg := { n_abs := PySem.W.mg_none_of X G z_abs, n_all := PySem.W.mg_none_of X G z_all, n_enumerate := PySem.W.mg_none_of X G z_enumerate, n_int := PySem.W.mg_none_of X G z_int, n_isinstance := PySem.W.mg_none_of X G z_isinstance, n_len := PySem.W.mg_none_of X G z_len, n_list := PySem.W.mg_none_of X G z_list, n_range := PySem.W.mg_none_of X G z_range, n_repr := PySem.W.mg_none_of X G z_repr, n_set := PySem.W.mg_none_of X G z_set, n_sum := PySem.W.mg_none_of X G z_sum, n_tuple := PySem.W.mg_none_of X G z_tuple, n_zip := PySem.W.mg_none_of X G z_zip, c_MAX_DEEP := ⟨_, PySem.W.mg_of X G q_MAX_DEEP⟩, c_MAX_FOLK := ⟨_, PySem.W.mg_of X G q_MAX_FOLK⟩, c_MAX_LIES := ⟨_, PySem.W.mg_of X G q_MAX_LIES⟩, x_BadPaper := ⟨_, PySem.W.mg_of X G aC_BadPaper, xC_BadPaper, kC_BadPaper, bC_BadPaper, tC_BadPaper⟩, x_Missing := ⟨_, PySem.W.mg_of X G aC_Missing, xC_Missing, kC_Missing, bC_Missing, tC_Missing⟩, x_NotAllowed := ⟨_, PySem.W.mg_of X G aC_NotAllowed, xC_NotAllowed, kC_NotAllowed, bC_NotAllowed, tC_NotAllowed⟩, x_TooLarge := ⟨_, PySem.W.mg_of X G aC_TooLarge, xC_TooLarge, kC_TooLarge, bC_TooLarge, tC_TooLarge⟩ }
  have D_check_case : DefD K mg "check_case" s_check_case ["many", "depth", "liars"] := ⟨_, _, fun_mk l_check_case c_check_case k_check_case, PySem.W.mg_of X G a_check_case, k_check_case, (fun_mk l_check_case c_check_case k_check_case).binds fun _ _ _ _ _ _ us hl => match us, hl with | [_, _, _], _ => rfl⟩
  have D_known_words : DefD K mg "known_words" s_known_words ["many", "depth"] := ⟨_, _, fun_mk l_known_words c_known_words k_known_words, PySem.W.mg_of X G a_known_words, k_known_words, (fun_mk l_known_words c_known_words k_known_words).binds fun _ _ _ _ _ _ us hl => match us, hl with | [_, _], _ => rfl⟩
  have D_known_lying : DefD K mg "known_lying" s_known_lying ["many", "depth", "liars"] := ⟨_, _, fun_mk l_known_lying c_known_lying k_known_lying, PySem.W.mg_of X G a_known_lying, k_known_lying, (fun_mk l_known_lying c_known_lying k_known_lying).binds fun _ _ _ _ _ _ us hl => match us, hl with | [_, _, _], _ => rfl⟩
  have D_known_told : DefD K mg "known_told" s_known_told ["many", "depth", "liars", "order", "lies"] := ⟨_, _, fun_mk l_known_told c_known_told k_known_told, PySem.W.mg_of X G a_known_told, k_known_told, (fun_mk l_known_told c_known_told k_known_told).binds fun _ _ _ _ _ _ us hl => match us, hl with | [_, _, _, _, _], _ => rfl⟩
  have D_most : DefD K mg "most" s_most ["values"] := ⟨_, _, fun_mk l_most c_most k_most, PySem.W.mg_of X G a_most, k_most, (fun_mk l_most c_most k_most).binds fun _ _ _ _ _ _ us hl => match us, hl with | [_], _ => rfl⟩
  have D_settled : DefD K mg "settled" s_settled ["many", "told", "row", "node", "left"] := ⟨_, _, fun_mk l_settled c_settled k_settled, PySem.W.mg_of X G a_settled, k_settled, (fun_mk l_settled c_settled k_settled).binds fun _ _ _ _ _ _ us hl => match us, hl with | [_, _, _, _, _], _ => rfl⟩
  have D_known_decided : DefD K mg "known_decided" s_known_decided ["many", "depth", "liars", "order", "lies"] := ⟨_, _, fun_mk l_known_decided c_known_decided k_known_decided, PySem.W.mg_of X G a_known_decided, k_known_decided, (fun_mk l_known_decided c_known_decided k_known_decided).binds fun _ _ _ _ _ _ us hl => match us, hl with | [_, _, _, _, _], _ => rfl⟩
  have D_is_kept : DefD K mg "is_kept" s_is_kept ["liars", "order", "row"] := ⟨_, _, fun_mk l_is_kept c_is_kept k_is_kept, PySem.W.mg_of X G a_is_kept, k_is_kept, (fun_mk l_is_kept c_is_kept k_is_kept).binds fun _ _ _ _ _ _ us hl => match us, hl with | [_, _, _], _ => rfl⟩
  have D_all_lies : DefD K mg "all_lies" s_all_lies ["size"] := ⟨_, _, fun_mk l_all_lies c_all_lies k_all_lies, PySem.W.mg_of X G a_all_lies, k_all_lies, (fun_mk l_all_lies c_all_lies k_all_lies).binds fun _ _ _ _ _ _ us hl => match us, hl with | [_], _ => rfl⟩
  have D_found_lies : DefD K mg "found_lies" s_found_lies ["many", "depth", "liars"] := ⟨_, _, fun_mk l_found_lies c_found_lies k_found_lies, PySem.W.mg_of X G a_found_lies, k_found_lies, (fun_mk l_found_lies c_found_lies k_found_lies).binds fun _ _ _ _ _ _ us hl => match us, hl with | [_, _, _], _ => rfl⟩
  have D_is_safe : DefD K mg "is_safe" s_is_safe ["many", "depth", "liars"] := ⟨_, _, fun_mk l_is_safe c_is_safe k_is_safe, PySem.W.mg_of X G a_is_safe, k_is_safe, (fun_mk l_is_safe c_is_safe k_is_safe).binds fun _ _ _ _ _ _ us hl => match us, hl with | [_, _, _], _ => rfl⟩
  have D_first_lies : DefD K mg "first_lies" s_first_lies ["many", "depth", "liars"] := ⟨_, _, fun_mk l_first_lies c_first_lies k_first_lies, PySem.W.mg_of X G a_first_lies, k_first_lies, (fun_mk l_first_lies c_first_lies k_first_lies).binds fun _ _ _ _ _ _ us hl => match us, hl with | [_, _, _], _ => rfl⟩
  have D_check_broken : DefD K mg "check_broken" s_check_broken ["many", "depth", "liars", "paper"] := ⟨_, _, fun_mk l_check_broken c_check_broken k_check_broken, PySem.W.mg_of X G a_check_broken, k_check_broken, (fun_mk l_check_broken c_check_broken k_check_broken).binds fun _ _ _ _ _ _ us hl => match us, hl with | [_, _, _, _], _ => rfl⟩
  have D_unsafe_sets : DefD K mg "unsafe_sets" s_unsafe_sets ["many", "depth", "few"] := ⟨_, _, fun_mk l_unsafe_sets c_unsafe_sets k_unsafe_sets, PySem.W.mg_of X G a_unsafe_sets, k_unsafe_sets, (fun_mk l_unsafe_sets c_unsafe_sets k_unsafe_sets).binds fun _ _ _ _ _ _ us hl => match us, hl with | [_, _, _], _ => rfl⟩
  have D_bears : DefD K mg "bears" s_bears ["many", "depth"] := ⟨_, _, fun_mk l_bears c_bears k_bears, PySem.W.mg_of X G a_bears, k_bears, (fun_mk l_bears c_bears k_bears).binds fun _ _ _ _ _ _ us hl => match us, hl with | [_, _], _ => rfl⟩
  have D_L_same : DefD K mg "_law_same" s_L_same ["told", "due"] := ⟨_, _, fun_mk l_L_same c_L_same k_L_same, PySem.W.mg_of X G a_L_same, k_L_same, (fun_mk l_L_same c_L_same k_L_same).binds fun _ _ _ _ _ _ us hl => match us, hl with | [_, _], _ => rfl⟩
  have D_L_error : DefD K mg "_law_error" s_L_error ["e"] := ⟨_, _, fun_mk l_L_error c_L_error k_L_error, PySem.W.mg_of X G a_L_error, k_L_error, (fun_mk l_L_error c_L_error k_L_error).binds fun _ _ _ _ _ _ us hl => match us, hl with | [_], _ => rfl⟩
  have D_L_stream : DefD K mg "_law_stream" s_L_stream ["script"] := ⟨_, _, fun_mk l_L_stream c_L_stream k_L_stream, PySem.W.mg_of X G a_L_stream, k_L_stream, (fun_mk l_L_stream c_L_stream k_L_stream).binds fun _ _ _ _ _ _ us hl => match us, hl with | [_], _ => rfl⟩
  have D_L_next : DefD K mg "_law_next" s_L_next ["state", "many"] := ⟨_, _, fun_mk l_L_next c_L_next k_L_next, PySem.W.mg_of X G a_L_next, k_L_next, (fun_mk l_L_next c_L_next k_L_next).binds fun _ _ _ _ _ _ us hl => match us, hl with | [_, _], _ => rfl⟩
  have D_L_told : DefD K mg "_law_told" s_L_told ["kind", "many", "depth", "one"] := ⟨_, _, fun_mk l_L_told c_L_told k_L_told, PySem.W.mg_of X G a_L_told, k_L_told, (fun_mk l_L_told c_L_told k_L_told).binds fun _ _ _ _ _ _ us hl => match us, hl with | [_, _, _, _], _ => rfl⟩
  have D_L_words : DefD K mg "_law_words" s_L_words ["many", "depth"] := ⟨_, _, fun_mk l_L_words c_L_words k_L_words, PySem.W.mg_of X G a_L_words, k_L_words, (fun_mk l_L_words c_L_words k_L_words).binds fun _ _ _ _ _ _ us hl => match us, hl with | [_, _], _ => rfl⟩
  have D_L_agreed : DefD K mg "_law_agreed" s_L_agreed ["rows", "many", "depth", "liars", "order", "lies"] := ⟨_, _, fun_mk l_L_agreed c_L_agreed k_L_agreed, PySem.W.mg_of X G a_L_agreed, k_L_agreed, (fun_mk l_L_agreed c_L_agreed k_L_agreed).binds fun _ _ _ _ _ _ us hl => match us, hl with | [_, _, _, _, _, _], _ => rfl⟩
  have D_L_first : DefD K mg "_law_first" s_L_first ["many", "depth", "liars"] := ⟨_, _, fun_mk l_L_first c_L_first k_L_first, PySem.W.mg_of X G a_L_first, k_L_first, (fun_mk l_L_first c_L_first k_L_first).binds fun _ _ _ _ _ _ us hl => match us, hl with | [_, _, _], _ => rfl⟩
  have D_L_sets : DefD K mg "_law_sets" s_L_sets ["many", "few"] := ⟨_, _, fun_mk l_L_sets c_L_sets k_L_sets, PySem.W.mg_of X G a_L_sets, k_L_sets, (fun_mk l_L_sets c_L_sets k_L_sets).binds fun _ _ _ _ _ _ us hl => match us, hl with | [_, _], _ => rfl⟩
  have EF : ErrF K mg := by
    obtain ⟨f, fd, F, g, k, b⟩ := D_L_error.ex
    exact ⟨f, fd, _, _, _, _, _, _, F, g, k, b, PySem.W.mg_of X G aC_NetError, ⟨PySem.W.mg_of X G aC_NotAllowed, PySem.W.mg_of X G aC_TooLarge, PySem.W.mg_of X G aC_Missing, PySem.W.mg_of X G aC_BadPaper, PySem.W.mg_of X G aC_BadForm⟩, ⟨⟨eg_NotAllowed, ek_NotAllowed, es_NotAllowed, ed_NotAllowed, ea_NotAllowed, on, ot, em_NotAllowed⟩, PySem.W.exm_ref nb nd nt en_NotAllowed, kitT hd_NotAllowed ht_NotAllowed ke_NotAllowed_NotAllowed, kitF ke_NotAllowed_NotAllowed hd_TooLarge ht_TooLarge ke_NotAllowed_TooLarge, kitF ke_NotAllowed_NotAllowed hd_Missing ht_Missing ke_NotAllowed_Missing, kitF ke_NotAllowed_NotAllowed hd_BadPaper ht_BadPaper ke_NotAllowed_BadPaper, kitF ke_NotAllowed_NotAllowed hd_BadForm ht_BadForm ke_NotAllowed_BadForm⟩, ⟨⟨eg_TooLarge, ek_TooLarge, es_TooLarge, ed_TooLarge, ea_TooLarge, on, ot, em_TooLarge⟩, PySem.W.exm_ref nb nd nt en_TooLarge, kitF ke_TooLarge_TooLarge hd_NotAllowed ht_NotAllowed ke_TooLarge_NotAllowed, kitT hd_TooLarge ht_TooLarge ke_TooLarge_TooLarge, kitF ke_TooLarge_TooLarge hd_Missing ht_Missing ke_TooLarge_Missing, kitF ke_TooLarge_TooLarge hd_BadPaper ht_BadPaper ke_TooLarge_BadPaper, kitF ke_TooLarge_TooLarge hd_BadForm ht_BadForm ke_TooLarge_BadForm⟩, ⟨⟨eg_Missing, ek_Missing, es_Missing, ed_Missing, ea_Missing, on, ot, em_Missing⟩, PySem.W.exm_ref nb nd nt en_Missing, kitF ke_Missing_Missing hd_NotAllowed ht_NotAllowed ke_Missing_NotAllowed, kitF ke_Missing_Missing hd_TooLarge ht_TooLarge ke_Missing_TooLarge, kitT hd_Missing ht_Missing ke_Missing_Missing, kitF ke_Missing_Missing hd_BadPaper ht_BadPaper ke_Missing_BadPaper, kitF ke_Missing_Missing hd_BadForm ht_BadForm ke_Missing_BadForm⟩, ⟨⟨eg_BadPaper, ek_BadPaper, es_BadPaper, ed_BadPaper, ea_BadPaper, on, ot, em_BadPaper⟩, PySem.W.exm_ref nb nd nt en_BadPaper, kitF ke_BadPaper_BadPaper hd_NotAllowed ht_NotAllowed ke_BadPaper_NotAllowed, kitF ke_BadPaper_BadPaper hd_TooLarge ht_TooLarge ke_BadPaper_TooLarge, kitF ke_BadPaper_BadPaper hd_Missing ht_Missing ke_BadPaper_Missing, kitT hd_BadPaper ht_BadPaper ke_BadPaper_BadPaper, kitF ke_BadPaper_BadPaper hd_BadForm ht_BadForm ke_BadPaper_BadForm⟩⟩
  refine ⟨PySem.W.fnOf "law" "law" (defArgs s_law) (defBody s_law) (defScope s_law) .none kV_law dc_law pm_law an_law cd_law ct_law, fun s v => .of_eq rfl, fun base _ _ => ?_⟩
  have c_err : ErrD P w K mg base 2 nmE := c_err_ok T EF
  have c_check_case := cal_check_case (P := P) (w := w) (base := base) T D_check_case 
  have c_known_words := cal_known_words (P := P) (w := w) (base := base) T D_known_words 
  have c_known_lying := cal_known_lying (P := P) (w := w) (base := base) T D_known_lying c_known_words
  have c_known_told := cal_known_told (P := P) (w := w) (base := base) T D_known_told c_known_words c_known_lying
  have c_most := cal_most (P := P) (w := w) (base := base) T D_most 
  have c_settled := cal_settled (P := P) (w := w) (base := base) T D_settled c_most
  have c_known_decided := cal_known_decided (P := P) (w := w) (base := base) T D_known_decided c_settled c_known_told
  have c_is_kept := cal_is_kept (P := P) (w := w) (base := base) T D_is_kept 
  have c_all_lies := cal_all_lies (P := P) (w := w) (base := base) T D_all_lies 
  have c_found_lies := cal_found_lies (P := P) (w := w) (base := base) T D_found_lies c_all_lies c_known_decided c_is_kept c_known_lying
  have c_is_safe := cal_is_safe (P := P) (w := w) (base := base) T D_is_safe c_found_lies c_check_case
  have c_first_lies := cal_first_lies (P := P) (w := w) (base := base) T D_first_lies c_found_lies c_check_case
  have c_check_broken := cal_check_broken (P := P) (w := w) (base := base) T D_check_broken c_known_decided c_is_kept c_known_lying c_check_case
  have c_unsafe_sets := cal_unsafe_sets (P := P) (w := w) (base := base) T D_unsafe_sets c_found_lies c_check_case
  have c_bears := cal_bears (P := P) (w := w) (base := base) T D_bears c_unsafe_sets c_check_case
  have c_L_same := cal_L_same (P := P) (w := w) (base := base) T D_L_same 
  have str : StrD P w K mg base 1 := cal_L_stream T D_L_stream streamOk
  have c_L_next := cal_L_next (P := P) (w := w) (base := base) T D_L_next 
  have c_L_told := cal_L_told (P := P) (w := w) (base := base) T D_L_told c_is_safe c_first_lies c_unsafe_sets c_bears c_err
  have c_L_words := cal_L_words (P := P) (w := w) (base := base) T D_L_words 
  have c_L_agreed := cal_L_agreed (P := P) (w := w) (base := base) T D_L_agreed 
  have c_L_first := cal_L_first (P := P) (w := w) (base := base) T D_L_first c_L_agreed c_L_words
  have c_L_sets := cal_L_sets (P := P) (w := w) (base := base) T D_L_sets 
  exact ok_law T (fun_mk l_law c_law k_law) str c_L_told c_L_same c_L_sets c_L_first c_check_broken c_L_next lawOk
end K68
open PySem PySem.W PyProof.Rows
set_option maxHeartbeats 0 in
theorem PySem.Challenge.cw_namelessnets_k68_whole_lies_of_all_kinds_holds : PySem.Challenge.rw_namelessnets_k68_whole_lies_of_all_kinds.Holds := by
  w_on; o_law; k_head; (case hw => w_witness2)
  k_fill
  refine DL.walkG (l := PySem.Challenge.rw_namelessnets_k68_whole_lies_of_all_kinds) (n := 63) (k := 11) (x := "script") (sp := fun w => DL.spLaw _) rfl (by decide) rfl ⟨rfl, by decide, by decide⟩ (fun w h Y => PySem.W.kIn_of Y) ?F (fun _ _ a ns hl _ hS => ⟨a, ns, rfl, hS, hl, fun _ => rfl⟩)
  case F =>
    intro w mg fa h KX G hmg
    refine' K68.all_mk KX G hmg ?a_check_case ?l_check_case ?c_check_case ?k_check_case ?a_known_words ?l_known_words ?c_known_words ?k_known_words ?a_known_lying ?l_known_lying ?c_known_lying ?k_known_lying ?a_known_told ?l_known_told ?c_known_told ?k_known_told ?a_most ?l_most ?c_most ?k_most ?a_settled ?l_settled ?c_settled ?k_settled ?a_known_decided ?l_known_decided ?c_known_decided ?k_known_decided ?a_is_kept ?l_is_kept ?c_is_kept ?k_is_kept ?a_all_lies ?l_all_lies ?c_all_lies ?k_all_lies ?a_found_lies ?l_found_lies ?c_found_lies ?k_found_lies ?a_is_safe ?l_is_safe ?c_is_safe ?k_is_safe ?a_first_lies ?l_first_lies ?c_first_lies ?k_first_lies ?a_check_broken ?l_check_broken ?c_check_broken ?k_check_broken ?a_unsafe_sets ?l_unsafe_sets ?c_unsafe_sets ?k_unsafe_sets ?a_bears ?l_bears ?c_bears ?k_bears ?a_L_same ?l_L_same ?c_L_same ?k_L_same ?a_L_error ?l_L_error ?c_L_error ?k_L_error ?a_L_stream ?l_L_stream ?c_L_stream ?k_L_stream ?a_L_next ?l_L_next ?c_L_next ?k_L_next ?a_L_told ?l_L_told ?c_L_told ?k_L_told ?a_L_words ?l_L_words ?c_L_words ?k_L_words ?a_L_agreed ?l_L_agreed ?c_L_agreed ?k_L_agreed ?a_L_first ?l_L_first ?c_L_first ?k_L_first ?a_L_sets ?l_L_sets ?c_L_sets ?k_L_sets ?a_law ?l_law ?c_law ?k_law ?aC_NetError ?aC_NotAllowed ?aC_TooLarge ?aC_Missing ?aC_BadPaper ?aC_BadForm ?xC_BadPaper ?kC_BadPaper ?bC_BadPaper ?tC_BadPaper ?xC_Missing ?kC_Missing ?bC_Missing ?tC_Missing ?xC_NotAllowed ?kC_NotAllowed ?bC_NotAllowed ?tC_NotAllowed ?xC_TooLarge ?kC_TooLarge ?bC_TooLarge ?tC_TooLarge ?nb ?nd ?nt ?on ?ot ?eg_NotAllowed ?ek_NotAllowed ?es_NotAllowed ?ed_NotAllowed ?ea_NotAllowed ?em_NotAllowed ?en_NotAllowed ?ke_NotAllowed_NotAllowed ?ke_NotAllowed_TooLarge ?ke_NotAllowed_Missing ?ke_NotAllowed_BadPaper ?ke_NotAllowed_BadForm ?eg_TooLarge ?ek_TooLarge ?es_TooLarge ?ed_TooLarge ?ea_TooLarge ?em_TooLarge ?en_TooLarge ?ke_TooLarge_NotAllowed ?ke_TooLarge_TooLarge ?ke_TooLarge_Missing ?ke_TooLarge_BadPaper ?ke_TooLarge_BadForm ?eg_Missing ?ek_Missing ?es_Missing ?ed_Missing ?ea_Missing ?em_Missing ?en_Missing ?ke_Missing_NotAllowed ?ke_Missing_TooLarge ?ke_Missing_Missing ?ke_Missing_BadPaper ?ke_Missing_BadForm ?eg_BadPaper ?ek_BadPaper ?es_BadPaper ?ed_BadPaper ?ea_BadPaper ?em_BadPaper ?en_BadPaper ?ke_BadPaper_NotAllowed ?ke_BadPaper_TooLarge ?ke_BadPaper_Missing ?ke_BadPaper_BadPaper ?ke_BadPaper_BadForm ?hd_NotAllowed ?ht_NotAllowed ?hd_TooLarge ?ht_TooLarge ?hd_Missing ?ht_Missing ?hd_BadPaper ?ht_BadPaper ?hd_BadForm ?ht_BadForm ?z_abs ?z_all ?z_enumerate ?z_int ?z_isinstance ?z_len ?z_list ?z_range ?z_repr ?z_set ?z_sum ?z_tuple ?z_zip ?q_MAX_DEEP ?q_MAX_FOLK ?q_MAX_LIES
    (case a_check_case => k_is)
    (case l_check_case => k_is)
    (case c_check_case => k_is)
    (case k_check_case => k_is)
    (case a_known_words => k_is)
    (case l_known_words => k_is)
    (case c_known_words => k_is)
    (case k_known_words => k_is)
    (case a_known_lying => k_is)
    (case l_known_lying => k_is)
    (case c_known_lying => k_is)
    (case k_known_lying => k_is)
    (case a_known_told => k_is)
    (case l_known_told => k_is)
    (case c_known_told => k_is)
    (case k_known_told => k_is)
    (case a_most => k_is)
    (case l_most => k_is)
    (case c_most => k_is)
    (case k_most => k_is)
    (case a_settled => k_is)
    (case l_settled => k_is)
    (case c_settled => k_is)
    (case k_settled => k_is)
    (case a_known_decided => k_is)
    (case l_known_decided => k_is)
    (case c_known_decided => k_is)
    (case k_known_decided => k_is)
    (case a_is_kept => k_is)
    (case l_is_kept => k_is)
    (case c_is_kept => k_is)
    (case k_is_kept => k_is)
    (case a_all_lies => k_is)
    (case l_all_lies => k_is)
    (case c_all_lies => k_is)
    (case k_all_lies => k_is)
    (case a_found_lies => k_is)
    (case l_found_lies => k_is)
    (case c_found_lies => k_is)
    (case k_found_lies => k_is)
    (case a_is_safe => k_is)
    (case l_is_safe => k_is)
    (case c_is_safe => k_is)
    (case k_is_safe => k_is)
    (case a_first_lies => k_is)
    (case l_first_lies => k_is)
    (case c_first_lies => k_is)
    (case k_first_lies => k_is)
    (case a_check_broken => k_is)
    (case l_check_broken => k_is)
    (case c_check_broken => k_is)
    (case k_check_broken => k_is)
    (case a_unsafe_sets => k_is)
    (case l_unsafe_sets => k_is)
    (case c_unsafe_sets => k_is)
    (case k_unsafe_sets => k_is)
    (case a_bears => k_is)
    (case l_bears => k_is)
    (case c_bears => k_is)
    (case k_bears => k_is)
    (case a_L_same => k_is)
    (case l_L_same => k_is)
    (case c_L_same => k_is)
    (case k_L_same => k_is)
    (case a_L_error => k_is)
    (case l_L_error => k_is)
    (case c_L_error => k_is)
    (case k_L_error => k_is)
    (case a_L_stream => k_is)
    (case l_L_stream => k_is)
    (case c_L_stream => k_is)
    (case k_L_stream => k_is)
    (case a_L_next => k_is)
    (case l_L_next => k_is)
    (case c_L_next => k_is)
    (case k_L_next => k_is)
    (case a_L_told => k_is)
    (case l_L_told => k_is)
    (case c_L_told => k_is)
    (case k_L_told => k_is)
    (case a_L_words => k_is)
    (case l_L_words => k_is)
    (case c_L_words => k_is)
    (case k_L_words => k_is)
    (case a_L_agreed => k_is)
    (case l_L_agreed => k_is)
    (case c_L_agreed => k_is)
    (case k_L_agreed => k_is)
    (case a_L_first => k_is)
    (case l_L_first => k_is)
    (case c_L_first => k_is)
    (case k_L_first => k_is)
    (case a_L_sets => k_is)
    (case l_L_sets => k_is)
    (case c_L_sets => k_is)
    (case k_L_sets => k_is)
    (case a_law => k_is)
    (case l_law => k_is)
    (case c_law => k_is)
    (case k_law => k_is)
    (case aC_NetError => k_is)
    (case aC_NotAllowed => k_is)
    (case aC_TooLarge => k_is)
    (case aC_Missing => k_is)
    (case aC_BadPaper => k_is)
    (case aC_BadForm => k_is)
    (case xC_BadPaper => k_exc)
    (case kC_BadPaper => k_is)
    (case bC_BadPaper => k_is)
    (case tC_BadPaper => k_is)
    (case xC_Missing => k_exc)
    (case kC_Missing => k_is)
    (case bC_Missing => k_is)
    (case tC_Missing => k_is)
    (case xC_NotAllowed => k_exc)
    (case kC_NotAllowed => k_is)
    (case bC_NotAllowed => k_is)
    (case tC_NotAllowed => k_is)
    (case xC_TooLarge => k_exc)
    (case kC_TooLarge => k_is)
    (case bC_TooLarge => k_is)
    (case tC_TooLarge => k_is)
    (case nb => k_is)
    (case nd => k_is)
    (case nt => k_is)
    (case on => k_is)
    (case ot => k_is)
    (case eg_NotAllowed => k_is)
    (case ek_NotAllowed => k_is)
    (case es_NotAllowed => k_is)
    (case ed_NotAllowed => k_is)
    (case ea_NotAllowed => k_is)
    (case em_NotAllowed => k_is)
    (case en_NotAllowed => k_is)
    (case ke_NotAllowed_NotAllowed => k_is)
    (case ke_NotAllowed_TooLarge => k_is)
    (case ke_NotAllowed_Missing => k_is)
    (case ke_NotAllowed_BadPaper => k_is)
    (case ke_NotAllowed_BadForm => k_is)
    (case eg_TooLarge => k_is)
    (case ek_TooLarge => k_is)
    (case es_TooLarge => k_is)
    (case ed_TooLarge => k_is)
    (case ea_TooLarge => k_is)
    (case em_TooLarge => k_is)
    (case en_TooLarge => k_is)
    (case ke_TooLarge_NotAllowed => k_is)
    (case ke_TooLarge_TooLarge => k_is)
    (case ke_TooLarge_Missing => k_is)
    (case ke_TooLarge_BadPaper => k_is)
    (case ke_TooLarge_BadForm => k_is)
    (case eg_Missing => k_is)
    (case ek_Missing => k_is)
    (case es_Missing => k_is)
    (case ed_Missing => k_is)
    (case ea_Missing => k_is)
    (case em_Missing => k_is)
    (case en_Missing => k_is)
    (case ke_Missing_NotAllowed => k_is)
    (case ke_Missing_TooLarge => k_is)
    (case ke_Missing_Missing => k_is)
    (case ke_Missing_BadPaper => k_is)
    (case ke_Missing_BadForm => k_is)
    (case eg_BadPaper => k_is)
    (case ek_BadPaper => k_is)
    (case es_BadPaper => k_is)
    (case ed_BadPaper => k_is)
    (case ea_BadPaper => k_is)
    (case em_BadPaper => k_is)
    (case en_BadPaper => k_is)
    (case ke_BadPaper_NotAllowed => k_is)
    (case ke_BadPaper_TooLarge => k_is)
    (case ke_BadPaper_Missing => k_is)
    (case ke_BadPaper_BadPaper => k_is)
    (case ke_BadPaper_BadForm => k_is)
    (case hd_NotAllowed => k_is)
    (case ht_NotAllowed => k_is)
    (case hd_TooLarge => k_is)
    (case ht_TooLarge => k_is)
    (case hd_Missing => k_is)
    (case ht_Missing => k_is)
    (case hd_BadPaper => k_is)
    (case ht_BadPaper => k_is)
    (case hd_BadForm => k_is)
    (case ht_BadForm => k_is)
    (case z_abs => k_is)
    (case z_all => k_is)
    (case z_enumerate => k_is)
    (case z_int => k_is)
    (case z_isinstance => k_is)
    (case z_len => k_is)
    (case z_list => k_is)
    (case z_range => k_is)
    (case z_repr => k_is)
    (case z_set => k_is)
    (case z_sum => k_is)
    (case z_tuple => k_is)
    (case z_zip => k_is)
    (case q_MAX_DEEP => k_is)
    (case q_MAX_FOLK => k_is)
    (case q_MAX_LIES => k_is)

